/- The chart that shows any jobs: what Fit tells, and that the law's own reckoning agrees; no condition. -/
import Derived.Test.YtlhmoojffopheaaGaw
import Derived.Test.YtlhmoojffopheaaSymStr
import Derived.Test.YtlhmoojffopheaaRows
namespace Go.Proofs.Ytlhmoojffopheaa
open Go.Proofs.Ytlhmoojffopheaa.Sym
open Go.RowKit (Below)
set_option linter.unusedVariables false
set_option linter.unusedSimpArgs false
def okF (j : Job) : Prop := 0 ≤ j.start ∧ j.start ≤ 1099511627776 ∧ j.start < j.fin ∧ j.fin ≤ 2199023255552
instance (j : Job) : Decidable (okF j) := by unfold okF; exact inferInstance
def spn (xs : List Job) (n : Nat) : Option (Int × Int) := (xs.take n).foldl (fun o j => if okF j then (match o with | none => some (j.start, j.fin) | some (f, t) => some (min f j.start, max t j.fin)) else o) none
theorem spn_succ {xs : List Job} {n : Nat} {j : Job} (h : xs[n]? = some j) : spn xs (n + 1) = if okF j then (match spn xs n with | none => some (j.start, j.fin) | some (f, t) => some (min f j.start, max t j.fin)) else spn xs n := by
  unfold spn
  rw [List.take_add_one, h]
  simp only [Option.toList_some, List.foldl_append, List.foldl_cons, List.foldl_nil]
def E1 (o : Option (Int × Int)) (f t : Int) : Prop := match o with
  | none => f = 1152921504606846976 ∧ t = 0
  | some (a, b) => f = a ∧ t = b ∧ 0 ≤ a ∧ a ≤ 1099511627776 ∧ a < b ∧ b ≤ 2199023255552
def E2 (o : Option (Int × Int)) (f t : Int) : Prop := match o with
  | none => f = -1 ∧ t = -1
  | some (a, b) => f = a ∧ t = b ∧ 0 ≤ a ∧ a ≤ 1099511627776 ∧ a < b ∧ b ≤ 2199023255552
theorem e1_no {xs : List Job} {n : Nat} {j : Job} {f t : Int} (h : xs[n]? = some j) (hn : ¬ okF j) (he : E1 (spn xs n) f t) : E1 (spn xs (n + 1)) f t := by rw [spn_succ h, if_neg hn]; exact he
theorem e2_no {xs : List Job} {n : Nat} {j : Job} {f t : Int} (h : xs[n]? = some j) (hn : ¬ okF j) (he : E2 (spn xs n) f t) : E2 (spn xs (n + 1)) f t := by rw [spn_succ h, if_neg hn]; exact he
theorem e1_yes {xs : List Job} {n : Nat} {j : Job} {f t : Int} (h : xs[n]? = some j) (hn : okF j) (he : E1 (spn xs n) f t) : E1 (spn xs (n + 1)) (min f j.start) (max t j.fin) := by
  rw [spn_succ h, if_pos hn]
  unfold okF at hn
  cases hq : spn xs n with
  | none => rw [hq] at he; simp only [E1] at he ⊢; omega
  | some p => obtain ⟨a, b⟩ := p; rw [hq] at he; simp only [E1] at he ⊢; omega
theorem e2_yes {xs : List Job} {n : Nat} {j : Job} {f t f' t' : Int} (h : xs[n]? = some j) (hn : okF j) (he : E2 (spn xs n) f t) (hf : (f' = j.start ∧ (f < 0 ∨ j.start < f)) ∨ (f' = f ∧ ¬ f < 0 ∧ ¬ j.start < f)) (ht : (t' = j.fin ∧ t < j.fin) ∨ (t' = t ∧ ¬ t < j.fin)) : E2 (spn xs (n + 1)) f' t' := by
  rw [spn_succ h, if_pos hn]
  unfold okF at hn
  cases hq : spn xs n with
  | none => rw [hq] at he; simp only [E2] at he ⊢; omega
  | some p => obtain ⟨a, b⟩ := p; rw [hq] at he; simp only [E2] at he ⊢; omega
/-- What Fit tells: for n columns. -/
def FitR (n : Int) (o : Option (Int × Int)) (c : Chart) (ok : Bool) : Prop :=
  (ok = true → ∃ f t, o = some (f, t) ∧ 0 ≤ f ∧ f ≤ 1099511627776 ∧ f < t ∧ t ≤ 2199023255552 ∧ 1 ≤ n ∧ n ≤ 120 ∧ c.from_ = f ∧ c.cols = n ∧ 1 ≤ c.column ∧ c.column ≤ 1099511627776 ∧ 0 ≤ c.column * n ∧ c.column * n ≤ 131941395333120 ∧ (c.column - 1) * n = c.column * n - n ∧ c.column * n - n < t - f ∧ (c.column < 1099511627776 → t - f ≤ c.column * n)) ∧
  (ok = false → c.from_ = 0 ∧ c.column = 0 ∧ c.cols = 0 ∧ (n < 1 ∨ 120 < n ∨ o = none))
theorem tdiv_bd {a n : Int} (ha : 0 ≤ a) (hn : 1 ≤ n) : 0 ≤ a.tdiv n ∧ a.tdiv n ≤ a := by
  rw [Int.tdiv_eq_ediv_of_nonneg ha]
  exact ⟨Int.ediv_nonneg ha (by omega), Int.ediv_le_self _ ha⟩
theorem fitR_no {n : Int} {o : Option (Int × Int)} (h : n < 1 ∨ 120 < n ∨ o = none) : FitR n o ⟨0, 0, 0⟩ false := ⟨fun h => (nomatch h), fun _ => ⟨rfl, rfl, rfl, h⟩⟩
theorem fitR_yes' {o : Option (Int × Int)} {f t n : Int} (he : E1 o f t) (hlt : f < t) (h1 : 1 ≤ n) (h2 : n ≤ 120) : FitR n o ⟨f, min ((t - f - 1).tdiv n + 1) 1099511627776, n⟩ true := by
  cases o with
  | none => simp only [E1] at he; omega
  | some p =>
    obtain ⟨a, b⟩ := p
    simp only [E1] at he
    obtain ⟨rfl, rfl, h3, h4, h5, h6⟩ := he
    refine ⟨fun _ => ⟨f, t, rfl, h3, h4, h5, h6, h1, h2, rfl, rfl, ?_⟩, fun h => (nomatch h)⟩
    dsimp only
    obtain ⟨q0, q1⟩ := tdiv_bd (a := t - f - 1) (n := n) (by omega) h1
    rw [Int.tdiv_eq_ediv_of_nonneg (by omega)] at q0 q1 ⊢
    have hd := Int.emod_add_mul_ediv (t - f - 1) n
    have hm0 := Int.emod_nonneg (t - f - 1) (show n ≠ 0 by omega)
    have hm1 := Int.emod_lt_of_pos (t - f - 1) (show 0 < n by omega)
    generalize (t - f - 1) % n = r at hd hm0 hm1
    generalize (t - f - 1) / n = q at hd q0 q1 ⊢
    rw [Int.mul_comm] at hd
    rcases Int.lt_or_le (q + 1) 1099511627776 with hq | hq
    · rw [Int.min_eq_left (by omega)]
      have e1 : (q + 1) * n = q * n + n := by rw [Int.add_mul, Int.one_mul]
      have e2 : (q + 1 - 1) * n = q * n := by rw [Int.add_sub_cancel]
      have e3 : 0 ≤ q * n := Int.mul_nonneg q0 (by omega)
      omega
    · rw [Int.min_eq_right (by omega)]
      have e3 : 1099511627775 * n ≤ q * n := Int.mul_le_mul_of_nonneg_right (by omega) (by omega)
      omega
theorem fitR_yes {xs : List Job} {m : Nat} {f t n : Int} (he : E1 (spn xs m) f t) (hm : m = xs.length) (hlt : f < t) (h1 : 1 ≤ n) (h2 : n ≤ 120) : FitR n (spn xs xs.length) ⟨f, min ((t - f - 1).tdiv n + 1) 1099511627776, n⟩ true := by subst hm; exact fitR_yes' he hlt h1 h2
theorem e2_law {o : Option (Int × Int)} {f t : Int} (he : E2 o f t) : (o = none ∧ f = -1) ∨ (∃ a b, o = some (a, b) ∧ f = a ∧ t = b) := by
  cases o with
  | none => exact .inl ⟨rfl, he.1⟩
  | some p => exact .inr ⟨p.1, p.2, rfl, he.1, he.2.1⟩
theorem e1_bd {o : Option (Int × Int)} {f t : Int} (he : E1 o f t) (h : f < t) : t - f - 1 ≤ 2199023255552 := by
  cases o with
  | none => simp only [E1] at he; omega
  | some p => simp only [E1] at he; omega
theorem e1_lo {o : Option (Int × Int)} {f t : Int} (he : E1 o f t) : 0 ≤ f ∧ f ≤ 1152921504606846976 ∧ 0 ≤ t ∧ t ≤ 2199023255552 := by
  cases o with
  | none => simp only [E1] at he; omega
  | some p => simp only [E1] at he; omega
theorem e1_none {xs : List Job} {m : Nat} {f t : Int} (he : E1 (spn xs m) f t) (hm : m = xs.length) (h : ¬ f < t) : spn xs xs.length = none := by
  subst hm
  cases hq : spn xs xs.length with
  | none => rfl
  | some p => rw [hq] at he; simp only [E1] at he; omega
theorem cl13 : Callable Try.prog 13 := ⟨Try.f13, Try.func13, by kernel_rfl, by kernel_rfl⟩
theorem cl16 : Callable Try.prog 16 := ⟨Try.f16, Try.func16, by kernel_rfl, by kernel_rfl⟩
theorem cl21 : Callable Try.prog 21 := ⟨Try.f21, Try.func21, by kernel_rfl, by kernel_rfl⟩
theorem cl22 : Callable Try.prog 22 := ⟨Try.f22, Try.func22, by kernel_rfl, by kernel_rfl⟩
theorem ks36 : kindsOf Try.prog 36 = some [.int, .int, .int] := by kernel_rfl
section
variable {W0 : World}
set_option maxRecDepth 100000 in
set_option maxHeartbeats 400000 in
theorem fit_s (n : Int) (a : Option Addr) (cap : Nat) (xs : List Job) (H : SHeap) (hs : SlV W0 H 10 Job.cells a cap xs) : AC Try.prog W0 21 [.int .i64 n, .slice a xs.length cap] H (fun v H' => (∃ c ok, v = .tuple #[.agg (Chart.cells c).toArray, .bool ok] ∧ FitR n (spn xs xs.length) c ok) ∧ H' = H) := by
  have hle := hs.le
  have hcb := hs.capb
  refine ac_of Try.func21 rfl rfl rfl ?_
  refine aw_seq_region ?_
  refine sr_new rfl (wtd_none rfl) rfl (x_alloc zr36 rfl) ?_
  intro r0_0 hr0_0 gr0_0
  refine sr_x rfl (wtd_none rfl) rfl (Rd.x (x_assign rfl)) ?_
  refine sr_nil ?_
  refine aw_keep (keep_cons (t := 0) rfl (keep_cons (t := 1) rfl (keep_cons (t := 4) rfl (keep_cons (t := 5) rfl keep_nil)))) ?_
  refine aw_seq ?_
  refine aw_seq_region ?_
  refine sr_x rfl (wtd_none rfl) rfl (Rd.x (x_move rfl)) ?_
  refine sr_cmp rfl (wtd_none rfl) rfl (Rd.x (x_lt rfl rfl)) (fun h1 => ?_) (fun h1 => ?_)
  · refine sr_x rfl (wtd_none rfl) rfl (Rd.x (x_move rfl)) ?_
    refine sr_skip rfl (wtd_no rfl rfl rfl rfl) rfl ?_
    refine sr_skip rfl (wtd_no rfl rfl rfl rfl) rfl ?_
    refine sr_x rfl (wtd_none rfl) rfl (Rd.x (x_pick_t rfl rfl rfl)) ?_
    refine sr_nil ?_
    refine aw_keep (keep_cons (t := 0) rfl (keep_cons (t := 1) rfl (keep_cons (t := 4) rfl (keep_cons (t := 5) rfl (keep_cons (t := 15) rfl keep_nil))))) ?_
    refine aw_true rfl ?_
    refine aw_seq_region ?_
    refine sr_x rfl (wtd_none rfl) rfl (Rd.x (x_build zr36 rfl fl36 (by repeat (first | exact Parts.nil | (apply Parts.cons; rfl))) (by repeat (first | exact Fill.done | (apply Fill.part; rfl; rfl; rfl; focus (repeat (first | exact Spl.done | exact Spl.all rfl | apply Spl.put | apply Spl.skip))))))) ?_
    refine sr_x0 rfl (wtd_none rfl) (x_store sz36 rfl rfl rfl rfl rfl (by repeat (first | exact Repl.here | apply Repl.there)) (by repeat (first | exact Spl.done | exact Spl.all rfl | apply Spl.put | apply Spl.skip))) ?_
    refine sr_x rfl (wtd_none rfl) rfl (Rd.x (x_assign rfl)) ?_
    refine sr_nil ?_
    refine aw_keep (keep_cons (t := 0) rfl (keep_cons (t := 1) rfl (keep_cons (t := 4) rfl (keep_cons (t := 5) rfl keep_nil)))) ?_
    refine aw_ret ?_
    show ∃ v H2, ResV _ _ _ _ _ _ v ∧ Sub H2 _ ∧ _
    first | exact ⟨_, H, resV rfl (.cons (⟨_, rfl, fun hw => rd_loadVarN ag36 sz36 hw (cells_ext (by repeat (first | exact List.mem_cons_self | apply List.mem_cons_of_mem)) (by repeat (first | exact Ext.all _ | exact Ext.done | apply Ext.take | apply Ext.skip))) rfl⟩) (.cons rfl .nil)), (by first | exact Sub.refl _ | exact Sub.drop (Sub.refl _)), ⟨⟨⟨0, 0, 0⟩, false, rfl, fitR_no (by first | exact .inl (by omega) | exact .inr (.inl (by omega)) | exact .inr (.inr (e1_none he (by omega) (by omega))))⟩, rfl⟩⟩ | exact ⟨_, H, resV rfl (.cons (⟨_, rfl, fun hw => rd_loadVarN ag36 sz36 hw (cells_ext (by repeat (first | exact List.mem_cons_self | apply List.mem_cons_of_mem)) (by repeat (first | exact Ext.all _ | exact Ext.done | apply Ext.take | apply Ext.skip))) rfl⟩) (.cons rfl .nil)), (by first | exact Sub.refl _ | exact Sub.drop (Sub.refl _)), ⟨⟨⟨s.2.1, min ((s.2.2 - s.2.1 - 1).tdiv n + 1) 1099511627776, n⟩, true, rfl, fitR_yes he (by omega) (by omega) (by omega) (by omega)⟩, rfl⟩⟩
  · refine sr_x rfl (wtd_none rfl) rfl (Rd.x (x_move rfl)) ?_
    refine sr_x rfl (wtd_yes rfl rfl rfl) rfl (Rd.x (x_move rfl)) ?_
    refine sr_cmp rfl (wtd_yes rfl rfl rfl) rfl (Rd.x (x_gt rfl rfl)) (fun h2 => ?_) (fun h2 => ?_)
    · refine sr_x rfl (wtd_none rfl) rfl (Rd.x (x_pick_f rfl rfl rfl)) ?_
      refine sr_nil ?_
      refine aw_keep (keep_cons (t := 0) rfl (keep_cons (t := 1) rfl (keep_cons (t := 4) rfl (keep_cons (t := 5) rfl (keep_cons (t := 15) rfl keep_nil))))) ?_
      refine aw_true rfl ?_
      refine aw_seq_region ?_
      refine sr_x rfl (wtd_none rfl) rfl (Rd.x (x_build zr36 rfl fl36 (by repeat (first | exact Parts.nil | (apply Parts.cons; rfl))) (by repeat (first | exact Fill.done | (apply Fill.part; rfl; rfl; rfl; focus (repeat (first | exact Spl.done | exact Spl.all rfl | apply Spl.put | apply Spl.skip))))))) ?_
      refine sr_x0 rfl (wtd_none rfl) (x_store sz36 rfl rfl rfl rfl rfl (by repeat (first | exact Repl.here | apply Repl.there)) (by repeat (first | exact Spl.done | exact Spl.all rfl | apply Spl.put | apply Spl.skip))) ?_
      refine sr_x rfl (wtd_none rfl) rfl (Rd.x (x_assign rfl)) ?_
      refine sr_nil ?_
      refine aw_keep (keep_cons (t := 0) rfl (keep_cons (t := 1) rfl (keep_cons (t := 4) rfl (keep_cons (t := 5) rfl keep_nil)))) ?_
      refine aw_ret ?_
      show ∃ v H2, ResV _ _ _ _ _ _ v ∧ Sub H2 _ ∧ _
      first | exact ⟨_, H, resV rfl (.cons (⟨_, rfl, fun hw => rd_loadVarN ag36 sz36 hw (cells_ext (by repeat (first | exact List.mem_cons_self | apply List.mem_cons_of_mem)) (by repeat (first | exact Ext.all _ | exact Ext.done | apply Ext.take | apply Ext.skip))) rfl⟩) (.cons rfl .nil)), (by first | exact Sub.refl _ | exact Sub.drop (Sub.refl _)), ⟨⟨⟨0, 0, 0⟩, false, rfl, fitR_no (by first | exact .inl (by omega) | exact .inr (.inl (by omega)) | exact .inr (.inr (e1_none he (by omega) (by omega))))⟩, rfl⟩⟩ | exact ⟨_, H, resV rfl (.cons (⟨_, rfl, fun hw => rd_loadVarN ag36 sz36 hw (cells_ext (by repeat (first | exact List.mem_cons_self | apply List.mem_cons_of_mem)) (by repeat (first | exact Ext.all _ | exact Ext.done | apply Ext.take | apply Ext.skip))) rfl⟩) (.cons rfl .nil)), (by first | exact Sub.refl _ | exact Sub.drop (Sub.refl _)), ⟨⟨⟨s.2.1, min ((s.2.2 - s.2.1 - 1).tdiv n + 1) 1099511627776, n⟩, true, rfl, fitR_yes he (by omega) (by omega) (by omega) (by omega)⟩, rfl⟩⟩
    · refine sr_x rfl (wtd_none rfl) rfl (Rd.x (x_pick_f rfl rfl rfl)) ?_
      refine sr_nil ?_
      refine aw_keep (keep_cons (t := 0) rfl (keep_cons (t := 1) rfl (keep_cons (t := 4) rfl (keep_cons (t := 5) rfl (keep_cons (t := 15) rfl keep_nil))))) ?_
      refine aw_false rfl ?_
      refine aw_skip ?_
      show AW _ _ _ _ _ _ _
      refine aw_seq_region ?_
      refine sr_x rfl (wtd_none rfl) rfl (Rd.x (x_assign rfl)) ?_
      refine sr_x rfl (wtd_none rfl) rfl (Rd.x (x_assign rfl)) ?_
      refine sr_nil ?_
      refine aw_keep (keep_cons (t := 0) rfl (keep_cons (t := 1) rfl (keep_cons (t := 4) rfl (keep_cons (t := 5) rfl (keep_cons (t := 6) rfl (keep_cons (t := 7) rfl keep_nil)))))) ?_
      refine aw_seq ?_
      refine aw_seq_region ?_
      refine sr_x rfl (wtd_none rfl) rfl (Rd.x (x_move rfl)) ?_
      refine sr_x rfl (wtd_none rfl) rfl (Rd.x (x_lenSlice Try.underlying22 rfl)) ?_
      refine sr_x rfl (wtd_none rfl) rfl (Rd.x (x_move rfl)) ?_
      refine sr_nil ?_
      refine aw_keep (keep_cons (t := 0) rfl (keep_cons (t := 4) rfl (keep_cons (t := 5) rfl (keep_cons (t := 6) rfl (keep_cons (t := 7) rfl (keep_cons (t := 17) rfl (keep_cons (t := 18) rfl (keep_cons (t := 19) rfl keep_nil)))))))) ?_
      refine aw_block ?_
      refine aw_loop (ι := Nat × Int × Int) (fun s => s.1 ≤ xs.length ∧ E1 (spn xs s.1) s.2.1 s.2.2) (fun s => [(0, .int .i64 n), (4, .pointer (some ⟨r0_0, 0, none⟩)), (17, .slice a xs.length cap), (18, .int .i64 xs.length), (6, .int .i64 s.2.1), (7, .int .i64 s.2.2), (19, .int .i64 s.1)]) (fun _ => (r0_0, .cells (Chart.cells ⟨0, 0, 0⟩).toArray 36 (0, 0)) :: H) (fun s => xs.length - s.1) (0, 1152921504606846976, 0) (⟨Nat.zero_le _, rfl, rfl⟩) (by repeat (first | exact keep_nil | refine keep_cons rfl ?_)) (by first | exact Sub.refl _ | exact Sub.drop (Sub.refl _) | exact Sub.keep (Sub.drop (Sub.refl _))) ?_
      intro s hi
      obtain ⟨hi0, he⟩ := hi
      obtain ⟨m, hm⟩ : ∃ m, m = s.1 := ⟨_, rfl⟩
      rw [← hm] at hi0 he ⊢
      refine aw_seq_region ?_
      refine sr_cmp rfl (wtd_none rfl) rfl (Rd.x (x_lt rfl rfl)) (fun h3 => ?_) (fun h3 => ?_)
      · refine sr_nil ?_
        refine aw_keep (keep_cons (t := 0) rfl (keep_cons (t := 4) rfl (keep_cons (t := 6) rfl (keep_cons (t := 7) rfl (keep_cons (t := 17) rfl (keep_cons (t := 18) rfl (keep_cons (t := 19) rfl (keep_cons (t := 20) rfl keep_nil)))))))) ?_
        refine aw_seq ?_
        refine aw_true rfl ?_
        refine aw_skip ?_
        show AW _ _ _ _ _ _ _
        refine aw_seq ?_
        refine aw_block ?_
        refine aw_seq_region ?_
        obtain ⟨xj, hxj⟩ := get_ex (show m < xs.length by omega)
        obtain ⟨bj, oj, haj, hcj⟩ := hs.at_ m _ hxj
        refine sr_x rfl (wtd_none rfl) rfl (Rd.x (x_indexAddrN m Try.underlying22 sz28 rfl haj rfl rfl (by omega))) ?_
        refine sr_x rfl (wtd_none rfl) rfl (Rd.x (x_loadN ag28 sz28 rfl (Cells.mono hcj (by repeat (first | exact Sub.refl _ | apply Sub.drop))) rfl)) ?_
        refine sr_new rfl (wtd_none rfl) rfl (x_alloc zr28 rfl) ?_
        intro r6_2 hr6_2 gr6_2
        refine sr_x0 rfl (wtd_none rfl) (x_store sz28 rfl rfl rfl rfl rfl (by repeat (first | exact Repl.here | apply Repl.there)) (by repeat (first | exact Spl.done | exact Spl.all rfl | apply Spl.put | apply Spl.skip))) ?_
        refine sr_nil ?_
        refine aw_keep (keep_cons (t := 0) rfl (keep_cons (t := 4) rfl (keep_cons (t := 6) rfl (keep_cons (t := 7) rfl (keep_cons (t := 9) rfl (keep_cons (t := 17) rfl (keep_cons (t := 18) rfl (keep_cons (t := 19) rfl (keep_cons (t := 20) rfl (keep_cons (t := 21) rfl (keep_cons (t := 22) rfl keep_nil))))))))))) ?_
        refine aw_seq_region ?_
        refine sr_x rfl (wtd_none rfl) rfl (Rd.x (x_fieldAddr fd28_6 rfl)) ?_
        refine sr_x rfl (wtd_none rfl) rfl (Rd.x (x_load ag2 rfl (cells_ext (by repeat (first | exact List.mem_cons_self | apply List.mem_cons_of_mem)) (by repeat (first | exact Ext.all _ | exact Ext.done | apply Ext.take | apply Ext.skip))))) ?_
        refine sr_cmp rfl (wtd_none rfl) rfl (Rd.x (x_ge rfl rfl)) (fun h4 => ?_) (fun h4 => ?_)
        · refine sr_x rfl (wtd_none rfl) rfl (Rd.x (x_move rfl)) ?_
          refine sr_x rfl (wtd_yes rfl rfl rfl) rfl (Rd.x (x_fieldAddr fd28_6 rfl)) ?_
          refine sr_x rfl (wtd_yes rfl rfl rfl) rfl (Rd.x (x_load ag2 rfl (cells_ext (by repeat (first | exact List.mem_cons_self | apply List.mem_cons_of_mem)) (by repeat (first | exact Ext.all _ | exact Ext.done | apply Ext.take | apply Ext.skip))))) ?_
          refine sr_cmp rfl (wtd_yes rfl rfl rfl) rfl (Rd.x (x_le rfl rfl)) (fun h5 => ?_) (fun h5 => ?_)
          · refine sr_x rfl (wtd_none rfl) rfl (Rd.x (x_pick_t rfl rfl rfl)) ?_
            refine sr_x rfl (wtd_none rfl) rfl (Rd.x (x_move rfl)) ?_
            refine sr_x rfl (wtd_yes rfl rfl rfl) rfl (Rd.x (x_fieldAddr fd28_7 rfl)) ?_
            refine sr_x rfl (wtd_yes rfl rfl rfl) rfl (Rd.x (x_load ag2 rfl (cells_ext (by repeat (first | exact List.mem_cons_self | apply List.mem_cons_of_mem)) (by repeat (first | exact Ext.all _ | exact Ext.done | apply Ext.take | apply Ext.skip))))) ?_
            refine sr_x rfl (wtd_yes rfl rfl rfl) rfl (Rd.x (x_fieldAddr fd28_6 rfl)) ?_
            refine sr_x rfl (wtd_yes rfl rfl rfl) rfl (Rd.x (x_load ag2 rfl (cells_ext (by repeat (first | exact List.mem_cons_self | apply List.mem_cons_of_mem)) (by repeat (first | exact Ext.all _ | exact Ext.done | apply Ext.take | apply Ext.skip))))) ?_
            refine sr_cmp rfl (wtd_yes rfl rfl rfl) rfl (Rd.x (x_gt rfl rfl)) (fun h6 => ?_) (fun h6 => ?_)
            · refine sr_x rfl (wtd_none rfl) rfl (Rd.x (x_pick_t rfl rfl rfl)) ?_
              refine sr_x rfl (wtd_none rfl) rfl (Rd.x (x_move rfl)) ?_
              refine sr_x rfl (wtd_yes rfl rfl rfl) rfl (Rd.x (x_fieldAddr fd28_7 rfl)) ?_
              refine sr_x rfl (wtd_yes rfl rfl rfl) rfl (Rd.x (x_load ag2 rfl (cells_ext (by repeat (first | exact List.mem_cons_self | apply List.mem_cons_of_mem)) (by repeat (first | exact Ext.all _ | exact Ext.done | apply Ext.take | apply Ext.skip))))) ?_
              refine sr_cmp rfl (wtd_yes rfl rfl rfl) rfl (Rd.x (x_le rfl rfl)) (fun h7 => ?_) (fun h7 => ?_)
              · refine sr_x rfl (wtd_none rfl) rfl (Rd.x (x_pick_t rfl rfl rfl)) ?_
                refine sr_nil ?_
                refine aw_keep (keep_cons (t := 0) rfl (keep_cons (t := 4) rfl (keep_cons (t := 6) rfl (keep_cons (t := 7) rfl (keep_cons (t := 9) rfl (keep_cons (t := 17) rfl (keep_cons (t := 18) rfl (keep_cons (t := 19) rfl (keep_cons (t := 20) rfl (keep_cons (t := 21) rfl (keep_cons (t := 22) rfl (keep_cons (t := 23) rfl (keep_cons (t := 24) rfl (keep_cons (t := 25) rfl (keep_cons (t := 26) rfl (keep_cons (t := 27) rfl (keep_cons (t := 28) rfl (keep_cons (t := 29) rfl (keep_cons (t := 30) rfl (keep_cons (t := 31) rfl (keep_cons (t := 32) rfl (keep_cons (t := 33) rfl (keep_cons (t := 34) rfl (keep_cons (t := 35) rfl (keep_cons (t := 36) rfl (keep_cons (t := 37) rfl (keep_cons (t := 38) rfl (keep_cons (t := 39) rfl (keep_cons (t := 40) rfl (keep_cons (t := 41) rfl (keep_cons (t := 42) rfl keep_nil))))))))))))))))))))))))))))))) ?_
                refine aw_true rfl ?_
                refine aw_dr ⟨_, 10, 67, [[], [], [1], [0, 1, 2], [], [], [5], [4, 5, 6], [0, 1, 2, 3], [0, 1, 2, 3, 4, 5, 6, 7, 8]], [.light, .light, .mem, .light, .light, .light, .mem, .light, .light, .light]⟩ (by kernel_rfl) rfl rfl mix ?_
                refine dr_light rfl rfl (wtd_none rfl) (x_move rfl) ?_
                refine dr_light rfl rfl (wtd_none rfl) (x_fieldAddr fd28_6 rfl) ?_
                refine dr_mem0 rfl rfl (wtd_none rfl) (x_load ag2 rfl (cells_ext (by repeat (first | exact List.mem_cons_self | apply List.mem_cons_of_mem)) (by repeat (first | exact Ext.all _ | exact Ext.done | apply Ext.take | apply Ext.skip)))) ?_
                refine dr_light rfl rfl (wtd_none rfl) (x_min rfl rfl) ?_
                refine dr_light rfl rfl (wtd_none rfl) (x_move rfl) ?_
                refine dr_light rfl rfl (wtd_none rfl) (x_fieldAddr fd28_7 rfl) ?_
                refine dr_mem0 rfl rfl (wtd_none rfl) (x_load ag2 rfl (cells_ext (by repeat (first | exact List.mem_cons_self | apply List.mem_cons_of_mem)) (by repeat (first | exact Ext.all _ | exact Ext.done | apply Ext.take | apply Ext.skip)))) ?_
                refine dr_light rfl rfl (wtd_none rfl) (x_max rfl rfl) ?_
                refine dr_light rfl rfl (wtd_none rfl) (x_assign rfl) ?_
                refine dr_light rfl rfl (wtd_none rfl) (x_assign rfl) ?_
                refine dr_nil0 ?_
                show AW _ _ _ _ _ _ _
                refine aw_region ?_
                refine sr_x rfl (wtd_none rfl) rfl (Rd.x (x_add' rfl rfl (i64w (by omega) (by omega)))) ?_
                refine sr_x rfl (wtd_none rfl) rfl (Rd.x (x_move rfl)) ?_
                refine sr_nil ?_
                show ∃ s', _ ∧ _ ∧ _ ∧ _
                first | exact ⟨(m + 1, _, _), ⟨by show m + 1 ≤ _; omega, e1_yes hxj ⟨by omega, by omega, by omega, by omega⟩ he⟩, by show _ - (m + 1) < _ - m; omega, (by repeat (first | exact keep_nil | refine keep_cons rfl ?_)), (by first | exact Sub.refl _ | exact Sub.drop (Sub.refl _) | exact Sub.keep (Sub.drop (Sub.refl _)))⟩ | exact ⟨(m + 1, _, _), ⟨by show m + 1 ≤ _; omega, e1_no hxj (by unfold okF; omega) he⟩, by show _ - (m + 1) < _ - m; omega, (by repeat (first | exact keep_nil | refine keep_cons rfl ?_)), (by first | exact Sub.refl _ | exact Sub.drop (Sub.refl _) | exact Sub.keep (Sub.drop (Sub.refl _)))⟩
              · refine sr_x rfl (wtd_none rfl) rfl (Rd.x (x_pick_t rfl rfl rfl)) ?_
                refine sr_nil ?_
                refine aw_keep (keep_cons (t := 0) rfl (keep_cons (t := 4) rfl (keep_cons (t := 6) rfl (keep_cons (t := 7) rfl (keep_cons (t := 9) rfl (keep_cons (t := 17) rfl (keep_cons (t := 18) rfl (keep_cons (t := 19) rfl (keep_cons (t := 20) rfl (keep_cons (t := 21) rfl (keep_cons (t := 22) rfl (keep_cons (t := 23) rfl (keep_cons (t := 24) rfl (keep_cons (t := 25) rfl (keep_cons (t := 26) rfl (keep_cons (t := 27) rfl (keep_cons (t := 28) rfl (keep_cons (t := 29) rfl (keep_cons (t := 30) rfl (keep_cons (t := 31) rfl (keep_cons (t := 32) rfl (keep_cons (t := 33) rfl (keep_cons (t := 34) rfl (keep_cons (t := 35) rfl (keep_cons (t := 36) rfl (keep_cons (t := 37) rfl (keep_cons (t := 38) rfl (keep_cons (t := 39) rfl (keep_cons (t := 40) rfl (keep_cons (t := 41) rfl (keep_cons (t := 42) rfl keep_nil))))))))))))))))))))))))))))))) ?_
                refine aw_false rfl ?_
                refine aw_skip ?_
                show AW _ _ _ _ _ _ _
                refine aw_region ?_
                refine sr_x rfl (wtd_none rfl) rfl (Rd.x (x_add' rfl rfl (i64w (by omega) (by omega)))) ?_
                refine sr_x rfl (wtd_none rfl) rfl (Rd.x (x_move rfl)) ?_
                refine sr_nil ?_
                show ∃ s', _ ∧ _ ∧ _ ∧ _
                first | exact ⟨(m + 1, _, _), ⟨by show m + 1 ≤ _; omega, e1_yes hxj ⟨by omega, by omega, by omega, by omega⟩ he⟩, by show _ - (m + 1) < _ - m; omega, (by repeat (first | exact keep_nil | refine keep_cons rfl ?_)), (by first | exact Sub.refl _ | exact Sub.drop (Sub.refl _) | exact Sub.keep (Sub.drop (Sub.refl _)))⟩ | exact ⟨(m + 1, _, _), ⟨by show m + 1 ≤ _; omega, e1_no hxj (by unfold okF; omega) he⟩, by show _ - (m + 1) < _ - m; omega, (by repeat (first | exact keep_nil | refine keep_cons rfl ?_)), (by first | exact Sub.refl _ | exact Sub.drop (Sub.refl _) | exact Sub.keep (Sub.drop (Sub.refl _)))⟩
            · refine sr_x rfl (wtd_none rfl) rfl (Rd.x (x_pick_t rfl rfl rfl)) ?_
              refine sr_x rfl (wtd_none rfl) rfl (Rd.x (x_move rfl)) ?_
              refine sr_skip rfl (wtd_no rfl rfl rfl rfl) rfl ?_
              refine sr_skip rfl (wtd_no rfl rfl rfl rfl) rfl ?_
              refine sr_skip rfl (wtd_no rfl rfl rfl rfl) rfl ?_
              refine sr_x rfl (wtd_none rfl) rfl (Rd.x (x_pick_f rfl rfl rfl)) ?_
              refine sr_nil ?_
              refine aw_keep (keep_cons (t := 0) rfl (keep_cons (t := 4) rfl (keep_cons (t := 6) rfl (keep_cons (t := 7) rfl (keep_cons (t := 9) rfl (keep_cons (t := 17) rfl (keep_cons (t := 18) rfl (keep_cons (t := 19) rfl (keep_cons (t := 20) rfl (keep_cons (t := 21) rfl (keep_cons (t := 22) rfl (keep_cons (t := 23) rfl (keep_cons (t := 24) rfl (keep_cons (t := 25) rfl (keep_cons (t := 26) rfl (keep_cons (t := 27) rfl (keep_cons (t := 28) rfl (keep_cons (t := 29) rfl (keep_cons (t := 30) rfl (keep_cons (t := 31) rfl (keep_cons (t := 32) rfl (keep_cons (t := 33) rfl (keep_cons (t := 34) rfl (keep_cons (t := 35) rfl (keep_cons (t := 36) rfl (keep_cons (t := 37) rfl (keep_cons (t := 38) rfl (keep_cons (t := 39) rfl (keep_cons (t := 40) rfl (keep_cons (t := 41) rfl (keep_cons (t := 42) rfl keep_nil))))))))))))))))))))))))))))))) ?_
              refine aw_false rfl ?_
              refine aw_skip ?_
              show AW _ _ _ _ _ _ _
              refine aw_region ?_
              refine sr_x rfl (wtd_none rfl) rfl (Rd.x (x_add' rfl rfl (i64w (by omega) (by omega)))) ?_
              refine sr_x rfl (wtd_none rfl) rfl (Rd.x (x_move rfl)) ?_
              refine sr_nil ?_
              show ∃ s', _ ∧ _ ∧ _ ∧ _
              first | exact ⟨(m + 1, _, _), ⟨by show m + 1 ≤ _; omega, e1_yes hxj ⟨by omega, by omega, by omega, by omega⟩ he⟩, by show _ - (m + 1) < _ - m; omega, (by repeat (first | exact keep_nil | refine keep_cons rfl ?_)), (by first | exact Sub.refl _ | exact Sub.drop (Sub.refl _) | exact Sub.keep (Sub.drop (Sub.refl _)))⟩ | exact ⟨(m + 1, _, _), ⟨by show m + 1 ≤ _; omega, e1_no hxj (by unfold okF; omega) he⟩, by show _ - (m + 1) < _ - m; omega, (by repeat (first | exact keep_nil | refine keep_cons rfl ?_)), (by first | exact Sub.refl _ | exact Sub.drop (Sub.refl _) | exact Sub.keep (Sub.drop (Sub.refl _)))⟩
          · refine sr_x rfl (wtd_none rfl) rfl (Rd.x (x_pick_t rfl rfl rfl)) ?_
            refine sr_x rfl (wtd_none rfl) rfl (Rd.x (x_move rfl)) ?_
            refine sr_skip rfl (wtd_no rfl rfl rfl rfl) rfl ?_
            refine sr_skip rfl (wtd_no rfl rfl rfl rfl) rfl ?_
            refine sr_skip rfl (wtd_no rfl rfl rfl rfl) rfl ?_
            refine sr_skip rfl (wtd_no rfl rfl rfl rfl) rfl ?_
            refine sr_skip rfl (wtd_no rfl rfl rfl rfl) rfl ?_
            refine sr_x rfl (wtd_none rfl) rfl (Rd.x (x_pick_f rfl rfl rfl)) ?_
            refine sr_x rfl (wtd_none rfl) rfl (Rd.x (x_move rfl)) ?_
            refine sr_skip rfl (wtd_no rfl rfl rfl rfl) rfl ?_
            refine sr_skip rfl (wtd_no rfl rfl rfl rfl) rfl ?_
            refine sr_skip rfl (wtd_no rfl rfl rfl rfl) rfl ?_
            refine sr_x rfl (wtd_none rfl) rfl (Rd.x (x_pick_f rfl rfl rfl)) ?_
            refine sr_nil ?_
            refine aw_keep (keep_cons (t := 0) rfl (keep_cons (t := 4) rfl (keep_cons (t := 6) rfl (keep_cons (t := 7) rfl (keep_cons (t := 9) rfl (keep_cons (t := 17) rfl (keep_cons (t := 18) rfl (keep_cons (t := 19) rfl (keep_cons (t := 20) rfl (keep_cons (t := 21) rfl (keep_cons (t := 22) rfl (keep_cons (t := 23) rfl (keep_cons (t := 24) rfl (keep_cons (t := 25) rfl (keep_cons (t := 26) rfl (keep_cons (t := 27) rfl (keep_cons (t := 28) rfl (keep_cons (t := 29) rfl (keep_cons (t := 30) rfl (keep_cons (t := 31) rfl (keep_cons (t := 32) rfl (keep_cons (t := 33) rfl (keep_cons (t := 34) rfl (keep_cons (t := 35) rfl (keep_cons (t := 36) rfl (keep_cons (t := 37) rfl (keep_cons (t := 38) rfl (keep_cons (t := 39) rfl (keep_cons (t := 40) rfl (keep_cons (t := 41) rfl (keep_cons (t := 42) rfl keep_nil))))))))))))))))))))))))))))))) ?_
            refine aw_false rfl ?_
            refine aw_skip ?_
            show AW _ _ _ _ _ _ _
            refine aw_region ?_
            refine sr_x rfl (wtd_none rfl) rfl (Rd.x (x_add' rfl rfl (i64w (by omega) (by omega)))) ?_
            refine sr_x rfl (wtd_none rfl) rfl (Rd.x (x_move rfl)) ?_
            refine sr_nil ?_
            show ∃ s', _ ∧ _ ∧ _ ∧ _
            first | exact ⟨(m + 1, _, _), ⟨by show m + 1 ≤ _; omega, e1_yes hxj ⟨by omega, by omega, by omega, by omega⟩ he⟩, by show _ - (m + 1) < _ - m; omega, (by repeat (first | exact keep_nil | refine keep_cons rfl ?_)), (by first | exact Sub.refl _ | exact Sub.drop (Sub.refl _) | exact Sub.keep (Sub.drop (Sub.refl _)))⟩ | exact ⟨(m + 1, _, _), ⟨by show m + 1 ≤ _; omega, e1_no hxj (by unfold okF; omega) he⟩, by show _ - (m + 1) < _ - m; omega, (by repeat (first | exact keep_nil | refine keep_cons rfl ?_)), (by first | exact Sub.refl _ | exact Sub.drop (Sub.refl _) | exact Sub.keep (Sub.drop (Sub.refl _)))⟩
        · refine sr_x rfl (wtd_none rfl) rfl (Rd.x (x_move rfl)) ?_
          refine sr_skip rfl (wtd_no rfl rfl rfl rfl) rfl ?_
          refine sr_skip rfl (wtd_no rfl rfl rfl rfl) rfl ?_
          refine sr_skip rfl (wtd_no rfl rfl rfl rfl) rfl ?_
          refine sr_x rfl (wtd_none rfl) rfl (Rd.x (x_pick_f rfl rfl rfl)) ?_
          refine sr_x rfl (wtd_none rfl) rfl (Rd.x (x_move rfl)) ?_
          refine sr_skip rfl (wtd_no rfl rfl rfl rfl) rfl ?_
          refine sr_skip rfl (wtd_no rfl rfl rfl rfl) rfl ?_
          refine sr_skip rfl (wtd_no rfl rfl rfl rfl) rfl ?_
          refine sr_skip rfl (wtd_no rfl rfl rfl rfl) rfl ?_
          refine sr_skip rfl (wtd_no rfl rfl rfl rfl) rfl ?_
          refine sr_x rfl (wtd_none rfl) rfl (Rd.x (x_pick_f rfl rfl rfl)) ?_
          refine sr_x rfl (wtd_none rfl) rfl (Rd.x (x_move rfl)) ?_
          refine sr_skip rfl (wtd_no rfl rfl rfl rfl) rfl ?_
          refine sr_skip rfl (wtd_no rfl rfl rfl rfl) rfl ?_
          refine sr_skip rfl (wtd_no rfl rfl rfl rfl) rfl ?_
          refine sr_x rfl (wtd_none rfl) rfl (Rd.x (x_pick_f rfl rfl rfl)) ?_
          refine sr_nil ?_
          refine aw_keep (keep_cons (t := 0) rfl (keep_cons (t := 4) rfl (keep_cons (t := 6) rfl (keep_cons (t := 7) rfl (keep_cons (t := 9) rfl (keep_cons (t := 17) rfl (keep_cons (t := 18) rfl (keep_cons (t := 19) rfl (keep_cons (t := 20) rfl (keep_cons (t := 21) rfl (keep_cons (t := 22) rfl (keep_cons (t := 23) rfl (keep_cons (t := 24) rfl (keep_cons (t := 25) rfl (keep_cons (t := 26) rfl (keep_cons (t := 27) rfl (keep_cons (t := 28) rfl (keep_cons (t := 29) rfl (keep_cons (t := 30) rfl (keep_cons (t := 31) rfl (keep_cons (t := 32) rfl (keep_cons (t := 33) rfl (keep_cons (t := 34) rfl (keep_cons (t := 35) rfl (keep_cons (t := 36) rfl (keep_cons (t := 37) rfl (keep_cons (t := 38) rfl (keep_cons (t := 39) rfl (keep_cons (t := 40) rfl (keep_cons (t := 41) rfl (keep_cons (t := 42) rfl keep_nil))))))))))))))))))))))))))))))) ?_
          refine aw_false rfl ?_
          refine aw_skip ?_
          show AW _ _ _ _ _ _ _
          refine aw_region ?_
          refine sr_x rfl (wtd_none rfl) rfl (Rd.x (x_add' rfl rfl (i64w (by omega) (by omega)))) ?_
          refine sr_x rfl (wtd_none rfl) rfl (Rd.x (x_move rfl)) ?_
          refine sr_nil ?_
          show ∃ s', _ ∧ _ ∧ _ ∧ _
          first | exact ⟨(m + 1, _, _), ⟨by show m + 1 ≤ _; omega, e1_yes hxj ⟨by omega, by omega, by omega, by omega⟩ he⟩, by show _ - (m + 1) < _ - m; omega, (by repeat (first | exact keep_nil | refine keep_cons rfl ?_)), (by first | exact Sub.refl _ | exact Sub.drop (Sub.refl _) | exact Sub.keep (Sub.drop (Sub.refl _)))⟩ | exact ⟨(m + 1, _, _), ⟨by show m + 1 ≤ _; omega, e1_no hxj (by unfold okF; omega) he⟩, by show _ - (m + 1) < _ - m; omega, (by repeat (first | exact keep_nil | refine keep_cons rfl ?_)), (by first | exact Sub.refl _ | exact Sub.drop (Sub.refl _) | exact Sub.keep (Sub.drop (Sub.refl _)))⟩
      · refine sr_nil ?_
        refine aw_keep (keep_cons (t := 0) rfl (keep_cons (t := 4) rfl (keep_cons (t := 6) rfl (keep_cons (t := 7) rfl (keep_cons (t := 17) rfl (keep_cons (t := 18) rfl (keep_cons (t := 19) rfl (keep_cons (t := 20) rfl keep_nil)))))))) ?_
        refine aw_seq ?_
        refine aw_false rfl ?_
        refine aw_exit ?_
        show AW _ _ _ _ _ _ _
        refine aw_seq ?_
        refine aw_seq_region ?_
        refine sr_x rfl (wtd_none rfl) rfl (Rd.x (x_move rfl)) ?_
        refine sr_x rfl (wtd_none rfl) rfl (Rd.x (x_move rfl)) ?_
        refine sr_cmp rfl (wtd_none rfl) rfl (Rd.x (x_ge rfl rfl)) (fun h8 => ?_) (fun h8 => ?_)
        · refine sr_nil ?_
          refine aw_keep (keep_cons (t := 0) rfl (keep_cons (t := 4) rfl (keep_cons (t := 6) rfl (keep_cons (t := 7) rfl (keep_cons (t := 54) rfl keep_nil))))) ?_
          refine aw_true rfl ?_
          refine aw_seq_region ?_
          refine sr_x rfl (wtd_none rfl) rfl (Rd.x (x_build zr36 rfl fl36 (by repeat (first | exact Parts.nil | (apply Parts.cons; rfl))) (by repeat (first | exact Fill.done | (apply Fill.part; rfl; rfl; rfl; focus (repeat (first | exact Spl.done | exact Spl.all rfl | apply Spl.put | apply Spl.skip))))))) ?_
          refine sr_x0 rfl (wtd_none rfl) (x_store sz36 rfl rfl rfl rfl rfl (by repeat (first | exact Repl.here | apply Repl.there)) (by repeat (first | exact Spl.done | exact Spl.all rfl | apply Spl.put | apply Spl.skip))) ?_
          refine sr_x rfl (wtd_none rfl) rfl (Rd.x (x_assign rfl)) ?_
          refine sr_nil ?_
          refine aw_keep (keep_cons (t := 0) rfl (keep_cons (t := 4) rfl (keep_cons (t := 5) rfl (keep_cons (t := 6) rfl (keep_cons (t := 7) rfl keep_nil))))) ?_
          refine aw_ret ?_
          show ∃ v H2, ResV _ _ _ _ _ _ v ∧ Sub H2 _ ∧ _
          first | exact ⟨_, H, resV rfl (.cons (⟨_, rfl, fun hw => rd_loadVarN ag36 sz36 hw (cells_ext (by repeat (first | exact List.mem_cons_self | apply List.mem_cons_of_mem)) (by repeat (first | exact Ext.all _ | exact Ext.done | apply Ext.take | apply Ext.skip))) rfl⟩) (.cons rfl .nil)), (by first | exact Sub.refl _ | exact Sub.drop (Sub.refl _)), ⟨⟨⟨0, 0, 0⟩, false, rfl, fitR_no (by first | exact .inl (by omega) | exact .inr (.inl (by omega)) | exact .inr (.inr (e1_none he (by omega) (by omega))))⟩, rfl⟩⟩ | exact ⟨_, H, resV rfl (.cons (⟨_, rfl, fun hw => rd_loadVarN ag36 sz36 hw (cells_ext (by repeat (first | exact List.mem_cons_self | apply List.mem_cons_of_mem)) (by repeat (first | exact Ext.all _ | exact Ext.done | apply Ext.take | apply Ext.skip))) rfl⟩) (.cons rfl .nil)), (by first | exact Sub.refl _ | exact Sub.drop (Sub.refl _)), ⟨⟨⟨s.2.1, min ((s.2.2 - s.2.1 - 1).tdiv n + 1) 1099511627776, n⟩, true, rfl, fitR_yes he (by omega) (by omega) (by omega) (by omega)⟩, rfl⟩⟩
        · refine sr_nil ?_
          refine aw_keep (keep_cons (t := 0) rfl (keep_cons (t := 4) rfl (keep_cons (t := 6) rfl (keep_cons (t := 7) rfl (keep_cons (t := 54) rfl keep_nil))))) ?_
          refine aw_false rfl ?_
          refine aw_skip ?_
          show AW _ _ _ _ _ _ _
          refine aw_seq_region ?_
          refine sr_x rfl (wtd_none rfl) rfl (Rd.x (x_move rfl)) ?_
          refine sr_x rfl (wtd_none rfl) rfl (Rd.x (x_move rfl)) ?_
          refine sr_x rfl (wtd_none rfl) rfl (Rd.x (x_move rfl)) ?_
          have hu0 := e1_lo he
          refine sr_x rfl (wtd_none rfl) rfl (Rd.x (x_sub' rfl rfl (i64w (by omega) (by omega)))) ?_
          refine sr_x rfl (wtd_none rfl) rfl (Rd.x (x_sub' rfl rfl (i64w (by omega) (by omega)))) ?_
          refine sr_x rfl (wtd_none rfl) rfl (Rd.x (x_move rfl)) ?_
          have hE := he
          have hq := tdiv_bd (a := s.2.2 - s.2.1 - 1) (n := n) (by omega) (by omega)
          have hu : s.2.2 - s.2.1 - 1 ≤ 2199023255552 := e1_bd hE (by omega)
          refine sr_x rfl (wtd_none rfl) rfl (Rd.x (x_quo' rfl rfl (by omega) (i64w (by omega) (by omega)))) ?_
          refine sr_x rfl (wtd_none rfl) rfl (Rd.x (x_add' rfl rfl (i64w (by omega) (by omega)))) ?_
          refine sr_x rfl (wtd_none rfl) rfl (Rd.x (x_min rfl rfl)) ?_
          refine sr_x rfl (wtd_none rfl) rfl (Rd.x (x_move rfl)) ?_
          refine sr_x rfl (wtd_none rfl) rfl (Rd.x (x_build zr36 rfl fl36 (by repeat (first | exact Parts.nil | (apply Parts.cons; rfl))) (by repeat (first | exact Fill.done | (apply Fill.part; rfl; rfl; rfl; focus (repeat (first | exact Spl.done | exact Spl.all rfl | apply Spl.put | apply Spl.skip))))))) ?_
          refine sr_x0 rfl (wtd_none rfl) (x_store sz36 rfl rfl rfl rfl rfl (by repeat (first | exact Repl.here | apply Repl.there)) (by repeat (first | exact Spl.done | exact Spl.all rfl | apply Spl.put | apply Spl.skip))) ?_
          refine sr_x rfl (wtd_none rfl) rfl (Rd.x (x_assign rfl)) ?_
          refine sr_nil ?_
          refine aw_keep (keep_cons (t := 4) rfl (keep_cons (t := 5) rfl keep_nil)) ?_
          refine aw_ret ?_
          show ∃ v H2, ResV _ _ _ _ _ _ v ∧ Sub H2 _ ∧ _
          first | exact ⟨_, H, resV rfl (.cons (⟨_, rfl, fun hw => rd_loadVarN ag36 sz36 hw (cells_ext (by repeat (first | exact List.mem_cons_self | apply List.mem_cons_of_mem)) (by repeat (first | exact Ext.all _ | exact Ext.done | apply Ext.take | apply Ext.skip))) rfl⟩) (.cons rfl .nil)), (by first | exact Sub.refl _ | exact Sub.drop (Sub.refl _)), ⟨⟨⟨0, 0, 0⟩, false, rfl, fitR_no (by first | exact .inl (by omega) | exact .inr (.inl (by omega)) | exact .inr (.inr (e1_none he (by omega) (by omega))))⟩, rfl⟩⟩ | exact ⟨_, H, resV rfl (.cons (⟨_, rfl, fun hw => rd_loadVarN ag36 sz36 hw (cells_ext (by repeat (first | exact List.mem_cons_self | apply List.mem_cons_of_mem)) (by repeat (first | exact Ext.all _ | exact Ext.done | apply Ext.take | apply Ext.skip))) rfl⟩) (.cons rfl .nil)), (by first | exact Sub.refl _ | exact Sub.drop (Sub.refl _)), ⟨⟨⟨s.2.1, min ((s.2.2 - s.2.1 - 1).tdiv n + 1) 1099511627776, n⟩, true, rfl, fitR_yes he (by omega) (by omega) (by omega) (by omega)⟩, rfl⟩⟩
set_option maxRecDepth 100000 in
set_option maxHeartbeats 400000 in
theorem right22_s (c : Chart) (H : SHeap) : AC Try.prog W0 22 [c.v] H (fun v H' => (∃ b : Bool, v = .bool b ∧ (b = true ↔ c.Right)) ∧ H' = H) := by
  refine ac_of Try.func22 rfl rfl rfl ?_
  refine aw_seq_region ?_
  refine sr_new rfl (wtd_none rfl) rfl (x_box rfl rfl) ?_
  intro r0_0 hr0_0 gr0_0
  refine sr_x rfl (wtd_none rfl) rfl (Rd.x (x_assign rfl)) ?_
  refine sr_nil ?_
  refine aw_keep (keep_cons (t := 1) rfl (keep_cons (t := 2) rfl keep_nil)) ?_
  refine aw_seq_region ?_
  refine sr_x rfl (wtd_none rfl) rfl (Rd.x (x_fieldAddr fd36_0 rfl)) ?_
  refine sr_x rfl (wtd_none rfl) rfl (Rd.x (x_load ag2 rfl (cells_ext (by repeat (first | exact List.mem_cons_self | apply List.mem_cons_of_mem)) (by repeat (first | exact Ext.all _ | exact Ext.done | apply Ext.take | apply Ext.skip))))) ?_
  refine sr_cmp rfl (wtd_none rfl) rfl (Rd.x (x_ge rfl rfl)) (fun h1 => ?_) (fun h1 => ?_)
  · refine sr_x rfl (wtd_none rfl) rfl (Rd.x (x_move rfl)) ?_
    refine sr_x rfl (wtd_yes rfl rfl rfl) rfl (Rd.x (x_fieldAddr fd36_0 rfl)) ?_
    refine sr_x rfl (wtd_yes rfl rfl rfl) rfl (Rd.x (x_load ag2 rfl (cells_ext (by repeat (first | exact List.mem_cons_self | apply List.mem_cons_of_mem)) (by repeat (first | exact Ext.all _ | exact Ext.done | apply Ext.take | apply Ext.skip))))) ?_
    refine sr_cmp rfl (wtd_yes rfl rfl rfl) rfl (Rd.x (x_le rfl rfl)) (fun h2 => ?_) (fun h2 => ?_)
    · refine sr_x rfl (wtd_none rfl) rfl (Rd.x (x_pick_t rfl rfl rfl)) ?_
      refine sr_x rfl (wtd_none rfl) rfl (Rd.x (x_move rfl)) ?_
      refine sr_x rfl (wtd_yes rfl rfl rfl) rfl (Rd.x (x_fieldAddr fd36_1 rfl)) ?_
      refine sr_x rfl (wtd_yes rfl rfl rfl) rfl (Rd.x (x_load ag2 rfl (cells_ext (by repeat (first | exact List.mem_cons_self | apply List.mem_cons_of_mem)) (by repeat (first | exact Ext.all _ | exact Ext.done | apply Ext.take | apply Ext.skip))))) ?_
      refine sr_cmp rfl (wtd_yes rfl rfl rfl) rfl (Rd.x (x_ge rfl rfl)) (fun h3 => ?_) (fun h3 => ?_)
      · refine sr_x rfl (wtd_none rfl) rfl (Rd.x (x_pick_t rfl rfl rfl)) ?_
        refine sr_x rfl (wtd_none rfl) rfl (Rd.x (x_move rfl)) ?_
        refine sr_x rfl (wtd_yes rfl rfl rfl) rfl (Rd.x (x_fieldAddr fd36_1 rfl)) ?_
        refine sr_x rfl (wtd_yes rfl rfl rfl) rfl (Rd.x (x_load ag2 rfl (cells_ext (by repeat (first | exact List.mem_cons_self | apply List.mem_cons_of_mem)) (by repeat (first | exact Ext.all _ | exact Ext.done | apply Ext.take | apply Ext.skip))))) ?_
        refine sr_cmp rfl (wtd_yes rfl rfl rfl) rfl (Rd.x (x_le rfl rfl)) (fun h4 => ?_) (fun h4 => ?_)
        · refine sr_x rfl (wtd_none rfl) rfl (Rd.x (x_pick_t rfl rfl rfl)) ?_
          refine sr_x rfl (wtd_none rfl) rfl (Rd.x (x_move rfl)) ?_
          refine sr_x rfl (wtd_yes rfl rfl rfl) rfl (Rd.x (x_fieldAddr fd36_2 rfl)) ?_
          refine sr_x rfl (wtd_yes rfl rfl rfl) rfl (Rd.x (x_load ag3 rfl (cells_ext (by repeat (first | exact List.mem_cons_self | apply List.mem_cons_of_mem)) (by repeat (first | exact Ext.all _ | exact Ext.done | apply Ext.take | apply Ext.skip))))) ?_
          refine sr_cmp rfl (wtd_yes rfl rfl rfl) rfl (Rd.x (x_ge rfl rfl)) (fun h5 => ?_) (fun h5 => ?_)
          · refine sr_x rfl (wtd_none rfl) rfl (Rd.x (x_pick_t rfl rfl rfl)) ?_
            refine sr_x rfl (wtd_none rfl) rfl (Rd.x (x_move rfl)) ?_
            refine sr_x rfl (wtd_yes rfl rfl rfl) rfl (Rd.x (x_fieldAddr fd36_2 rfl)) ?_
            refine sr_x rfl (wtd_yes rfl rfl rfl) rfl (Rd.x (x_load ag3 rfl (cells_ext (by repeat (first | exact List.mem_cons_self | apply List.mem_cons_of_mem)) (by repeat (first | exact Ext.all _ | exact Ext.done | apply Ext.take | apply Ext.skip))))) ?_
            refine sr_cmp rfl (wtd_yes rfl rfl rfl) rfl (Rd.x (x_le rfl rfl)) (fun h6 => ?_) (fun h6 => ?_)
            · refine sr_x rfl (wtd_none rfl) rfl (Rd.x (x_pick_t rfl rfl rfl)) ?_
              refine sr_x rfl (wtd_none rfl) rfl (Rd.x (x_assign rfl)) ?_
              refine sr_nil ?_
              refine aw_keep (keep_cons (t := 2) rfl keep_nil) ?_
              refine aw_ret ?_
              show ∃ v H2, ResV _ _ _ _ _ _ v ∧ Sub H2 _ ∧ _
              exact ⟨_, H, resV rfl (.cons rfl .nil), (by repeat (first | exact Sub.refl _ | apply Sub.drop)), ⟨⟨_, rfl, by unfold Chart.Right; simp; omega⟩, rfl⟩⟩
            · refine sr_x rfl (wtd_none rfl) rfl (Rd.x (x_pick_t rfl rfl rfl)) ?_
              refine sr_x rfl (wtd_none rfl) rfl (Rd.x (x_assign rfl)) ?_
              refine sr_nil ?_
              refine aw_keep (keep_cons (t := 2) rfl keep_nil) ?_
              refine aw_ret ?_
              show ∃ v H2, ResV _ _ _ _ _ _ v ∧ Sub H2 _ ∧ _
              exact ⟨_, H, resV rfl (.cons rfl .nil), (by repeat (first | exact Sub.refl _ | apply Sub.drop)), ⟨⟨_, rfl, by unfold Chart.Right; simp; omega⟩, rfl⟩⟩
          · refine sr_x rfl (wtd_none rfl) rfl (Rd.x (x_pick_t rfl rfl rfl)) ?_
            refine sr_x rfl (wtd_none rfl) rfl (Rd.x (x_move rfl)) ?_
            refine sr_skip rfl (wtd_no rfl rfl rfl rfl) rfl ?_
            refine sr_skip rfl (wtd_no rfl rfl rfl rfl) rfl ?_
            refine sr_skip rfl (wtd_no rfl rfl rfl rfl) rfl ?_
            refine sr_x rfl (wtd_none rfl) rfl (Rd.x (x_pick_f rfl rfl rfl)) ?_
            refine sr_x rfl (wtd_none rfl) rfl (Rd.x (x_assign rfl)) ?_
            refine sr_nil ?_
            refine aw_keep (keep_cons (t := 2) rfl keep_nil) ?_
            refine aw_ret ?_
            show ∃ v H2, ResV _ _ _ _ _ _ v ∧ Sub H2 _ ∧ _
            exact ⟨_, H, resV rfl (.cons rfl .nil), (by repeat (first | exact Sub.refl _ | apply Sub.drop)), ⟨⟨_, rfl, by unfold Chart.Right; simp; omega⟩, rfl⟩⟩
        · refine sr_x rfl (wtd_none rfl) rfl (Rd.x (x_pick_t rfl rfl rfl)) ?_
          refine sr_x rfl (wtd_none rfl) rfl (Rd.x (x_move rfl)) ?_
          refine sr_skip rfl (wtd_no rfl rfl rfl rfl) rfl ?_
          refine sr_skip rfl (wtd_no rfl rfl rfl rfl) rfl ?_
          refine sr_skip rfl (wtd_no rfl rfl rfl rfl) rfl ?_
          refine sr_x rfl (wtd_none rfl) rfl (Rd.x (x_pick_f rfl rfl rfl)) ?_
          refine sr_x rfl (wtd_none rfl) rfl (Rd.x (x_move rfl)) ?_
          refine sr_skip rfl (wtd_no rfl rfl rfl rfl) rfl ?_
          refine sr_skip rfl (wtd_no rfl rfl rfl rfl) rfl ?_
          refine sr_skip rfl (wtd_no rfl rfl rfl rfl) rfl ?_
          refine sr_x rfl (wtd_none rfl) rfl (Rd.x (x_pick_f rfl rfl rfl)) ?_
          refine sr_x rfl (wtd_none rfl) rfl (Rd.x (x_assign rfl)) ?_
          refine sr_nil ?_
          refine aw_keep (keep_cons (t := 2) rfl keep_nil) ?_
          refine aw_ret ?_
          show ∃ v H2, ResV _ _ _ _ _ _ v ∧ Sub H2 _ ∧ _
          exact ⟨_, H, resV rfl (.cons rfl .nil), (by repeat (first | exact Sub.refl _ | apply Sub.drop)), ⟨⟨_, rfl, by unfold Chart.Right; simp; omega⟩, rfl⟩⟩
      · refine sr_x rfl (wtd_none rfl) rfl (Rd.x (x_pick_t rfl rfl rfl)) ?_
        refine sr_x rfl (wtd_none rfl) rfl (Rd.x (x_move rfl)) ?_
        refine sr_skip rfl (wtd_no rfl rfl rfl rfl) rfl ?_
        refine sr_skip rfl (wtd_no rfl rfl rfl rfl) rfl ?_
        refine sr_skip rfl (wtd_no rfl rfl rfl rfl) rfl ?_
        refine sr_x rfl (wtd_none rfl) rfl (Rd.x (x_pick_f rfl rfl rfl)) ?_
        refine sr_x rfl (wtd_none rfl) rfl (Rd.x (x_move rfl)) ?_
        refine sr_skip rfl (wtd_no rfl rfl rfl rfl) rfl ?_
        refine sr_skip rfl (wtd_no rfl rfl rfl rfl) rfl ?_
        refine sr_skip rfl (wtd_no rfl rfl rfl rfl) rfl ?_
        refine sr_x rfl (wtd_none rfl) rfl (Rd.x (x_pick_f rfl rfl rfl)) ?_
        refine sr_x rfl (wtd_none rfl) rfl (Rd.x (x_move rfl)) ?_
        refine sr_skip rfl (wtd_no rfl rfl rfl rfl) rfl ?_
        refine sr_skip rfl (wtd_no rfl rfl rfl rfl) rfl ?_
        refine sr_skip rfl (wtd_no rfl rfl rfl rfl) rfl ?_
        refine sr_x rfl (wtd_none rfl) rfl (Rd.x (x_pick_f rfl rfl rfl)) ?_
        refine sr_x rfl (wtd_none rfl) rfl (Rd.x (x_assign rfl)) ?_
        refine sr_nil ?_
        refine aw_keep (keep_cons (t := 2) rfl keep_nil) ?_
        refine aw_ret ?_
        show ∃ v H2, ResV _ _ _ _ _ _ v ∧ Sub H2 _ ∧ _
        exact ⟨_, H, resV rfl (.cons rfl .nil), (by repeat (first | exact Sub.refl _ | apply Sub.drop)), ⟨⟨_, rfl, by unfold Chart.Right; simp; omega⟩, rfl⟩⟩
    · refine sr_x rfl (wtd_none rfl) rfl (Rd.x (x_pick_t rfl rfl rfl)) ?_
      refine sr_x rfl (wtd_none rfl) rfl (Rd.x (x_move rfl)) ?_
      refine sr_skip rfl (wtd_no rfl rfl rfl rfl) rfl ?_
      refine sr_skip rfl (wtd_no rfl rfl rfl rfl) rfl ?_
      refine sr_skip rfl (wtd_no rfl rfl rfl rfl) rfl ?_
      refine sr_x rfl (wtd_none rfl) rfl (Rd.x (x_pick_f rfl rfl rfl)) ?_
      refine sr_x rfl (wtd_none rfl) rfl (Rd.x (x_move rfl)) ?_
      refine sr_skip rfl (wtd_no rfl rfl rfl rfl) rfl ?_
      refine sr_skip rfl (wtd_no rfl rfl rfl rfl) rfl ?_
      refine sr_skip rfl (wtd_no rfl rfl rfl rfl) rfl ?_
      refine sr_x rfl (wtd_none rfl) rfl (Rd.x (x_pick_f rfl rfl rfl)) ?_
      refine sr_x rfl (wtd_none rfl) rfl (Rd.x (x_move rfl)) ?_
      refine sr_skip rfl (wtd_no rfl rfl rfl rfl) rfl ?_
      refine sr_skip rfl (wtd_no rfl rfl rfl rfl) rfl ?_
      refine sr_skip rfl (wtd_no rfl rfl rfl rfl) rfl ?_
      refine sr_x rfl (wtd_none rfl) rfl (Rd.x (x_pick_f rfl rfl rfl)) ?_
      refine sr_x rfl (wtd_none rfl) rfl (Rd.x (x_move rfl)) ?_
      refine sr_skip rfl (wtd_no rfl rfl rfl rfl) rfl ?_
      refine sr_skip rfl (wtd_no rfl rfl rfl rfl) rfl ?_
      refine sr_skip rfl (wtd_no rfl rfl rfl rfl) rfl ?_
      refine sr_x rfl (wtd_none rfl) rfl (Rd.x (x_pick_f rfl rfl rfl)) ?_
      refine sr_x rfl (wtd_none rfl) rfl (Rd.x (x_assign rfl)) ?_
      refine sr_nil ?_
      refine aw_keep (keep_cons (t := 2) rfl keep_nil) ?_
      refine aw_ret ?_
      show ∃ v H2, ResV _ _ _ _ _ _ v ∧ Sub H2 _ ∧ _
      exact ⟨_, H, resV rfl (.cons rfl .nil), (by repeat (first | exact Sub.refl _ | apply Sub.drop)), ⟨⟨_, rfl, by unfold Chart.Right; simp; omega⟩, rfl⟩⟩
  · refine sr_x rfl (wtd_none rfl) rfl (Rd.x (x_move rfl)) ?_
    refine sr_skip rfl (wtd_no rfl rfl rfl rfl) rfl ?_
    refine sr_skip rfl (wtd_no rfl rfl rfl rfl) rfl ?_
    refine sr_skip rfl (wtd_no rfl rfl rfl rfl) rfl ?_
    refine sr_x rfl (wtd_none rfl) rfl (Rd.x (x_pick_f rfl rfl rfl)) ?_
    refine sr_x rfl (wtd_none rfl) rfl (Rd.x (x_move rfl)) ?_
    refine sr_skip rfl (wtd_no rfl rfl rfl rfl) rfl ?_
    refine sr_skip rfl (wtd_no rfl rfl rfl rfl) rfl ?_
    refine sr_skip rfl (wtd_no rfl rfl rfl rfl) rfl ?_
    refine sr_x rfl (wtd_none rfl) rfl (Rd.x (x_pick_f rfl rfl rfl)) ?_
    refine sr_x rfl (wtd_none rfl) rfl (Rd.x (x_move rfl)) ?_
    refine sr_skip rfl (wtd_no rfl rfl rfl rfl) rfl ?_
    refine sr_skip rfl (wtd_no rfl rfl rfl rfl) rfl ?_
    refine sr_skip rfl (wtd_no rfl rfl rfl rfl) rfl ?_
    refine sr_x rfl (wtd_none rfl) rfl (Rd.x (x_pick_f rfl rfl rfl)) ?_
    refine sr_x rfl (wtd_none rfl) rfl (Rd.x (x_move rfl)) ?_
    refine sr_skip rfl (wtd_no rfl rfl rfl rfl) rfl ?_
    refine sr_skip rfl (wtd_no rfl rfl rfl rfl) rfl ?_
    refine sr_skip rfl (wtd_no rfl rfl rfl rfl) rfl ?_
    refine sr_x rfl (wtd_none rfl) rfl (Rd.x (x_pick_f rfl rfl rfl)) ?_
    refine sr_x rfl (wtd_none rfl) rfl (Rd.x (x_move rfl)) ?_
    refine sr_skip rfl (wtd_no rfl rfl rfl rfl) rfl ?_
    refine sr_skip rfl (wtd_no rfl rfl rfl rfl) rfl ?_
    refine sr_skip rfl (wtd_no rfl rfl rfl rfl) rfl ?_
    refine sr_x rfl (wtd_none rfl) rfl (Rd.x (x_pick_f rfl rfl rfl)) ?_
    refine sr_x rfl (wtd_none rfl) rfl (Rd.x (x_assign rfl)) ?_
    refine sr_nil ?_
    refine aw_keep (keep_cons (t := 2) rfl keep_nil) ?_
    refine aw_ret ?_
    show ∃ v H2, ResV _ _ _ _ _ _ v ∧ Sub H2 _ ∧ _
    exact ⟨_, H, resV rfl (.cons rfl .nil), (by repeat (first | exact Sub.refl _ | apply Sub.drop)), ⟨⟨_, rfl, by unfold Chart.Right; simp; omega⟩, rfl⟩⟩
set_option maxRecDepth 100000 in
set_option maxHeartbeats 2000000 in
theorem ganttFits_s (n : Int) (a : Option Addr) (cap : Nat) (xs : List Job) (hs : SlV W0 [] 10 Job.cells a cap xs) : AC Try.prog W0 5 [.int .i64 n, .slice a xs.length cap] [] (fun v _ => v = .bool true) := by
  have hle := hs.le
  have hcb := hs.capb
  have hl20 := (hs.take 20).le
  refine ac_of Try.func5 rfl rfl rfl ?_
  refine aw_seq_region ?_
  refine sr_x rfl (wtd_none rfl) rfl (Rd.x (x_assign rfl)) ?_
  refine sr_nil ?_
  refine aw_keep (keep_cons (t := 0) rfl (keep_cons (t := 1) rfl (keep_cons (t := 4) rfl keep_nil))) ?_
  refine aw_seq_region ?_
  refine sr_x rfl (wtd_none rfl) rfl (Rd.x (x_move rfl)) ?_
  refine sr_d rfl (wtd_none rfl) rfl (opS_call rfl rfl rfl rfl cl13 (few_s _ _ _ _ (by omega) (by omega))) ?_
  rintro _ _ ⟨rfl, rfl⟩
  refine sr_x rfl (wtd_none rfl) rfl (Rd.x (x_assign rfl)) ?_
  refine sr_nil ?_
  refine aw_keep (keep_cons (t := 0) rfl (keep_cons (t := 1) rfl (keep_cons (t := 4) rfl keep_nil))) ?_
  refine aw_seq_region ?_
  refine sr_x rfl (wtd_none rfl) rfl (Rd.x (x_move rfl)) ?_
  refine sr_x rfl (wtd_none rfl) rfl (Rd.x (x_move rfl)) ?_
  refine sr_d rfl (wtd_none rfl) rfl (opS_call rfl rfl rfl rfl cl21 (fit_s n a cap (xs.take 20) _ (hs.take 20))) ?_
  rintro _ _ ⟨⟨c, ok, rfl, hk1, hk2⟩, rfl⟩
  cases ok
  · first | (obtain ⟨f0, t0, ho, q1, q2, q3, q4, q5, q6, qa, qb, q7, q8, q9, q10, q11, q12, q13⟩ := hk1 rfl) | (obtain ⟨qa, qb, qc, hbad⟩ := hk2 rfl)
    refine sr_x rfl (wtd_none rfl) rfl (Rd.x (x_move rfl)) ?_
    refine sr_x rfl (wtd_none rfl) rfl (Rd.x (x_extract rfl rfl)) ?_
    refine sr_x rfl (wtd_none rfl) rfl (Rd.x (x_extract rfl rfl)) ?_
    refine sr_new rfl (wtd_none rfl) rfl (x_alloc zr36 rfl) ?_
    intro r2_6 hr2_6 gr2_6
    refine sr_x0 rfl (wtd_none rfl) (x_store sz36 rfl rfl rfl rfl rfl (by repeat (first | exact Repl.here | apply Repl.there)) (by repeat (first | exact Spl.done | exact Spl.all rfl | apply Spl.put | apply Spl.skip))) ?_
    refine sr_x rfl (wtd_none rfl) rfl (Rd.x (x_assign rfl)) ?_
    refine sr_nil ?_
    refine aw_keep (keep_cons (t := 0) rfl (keep_cons (t := 1) rfl (keep_cons (t := 4) rfl (keep_cons (t := 5) rfl (keep_cons (t := 6) rfl keep_nil))))) ?_
    refine aw_seq_region ?_
    refine sr_x rfl (wtd_none rfl) rfl (Rd.x (x_assign rfl)) ?_
    refine sr_x rfl (wtd_none rfl) rfl (Rd.x (x_assign rfl)) ?_
    refine sr_nil ?_
    refine aw_keep (keep_cons (t := 0) rfl (keep_cons (t := 1) rfl (keep_cons (t := 4) rfl (keep_cons (t := 5) rfl (keep_cons (t := 6) rfl (keep_cons (t := 7) rfl (keep_cons (t := 8) rfl keep_nil))))))) ?_
    refine aw_seq ?_
    refine aw_seq_region ?_
    refine sr_x rfl (wtd_none rfl) rfl (Rd.x (x_assign rfl)) ?_
    refine sr_nil ?_
    refine aw_keep (keep_cons (t := 0) rfl (keep_cons (t := 1) rfl (keep_cons (t := 4) rfl (keep_cons (t := 5) rfl (keep_cons (t := 6) rfl (keep_cons (t := 7) rfl (keep_cons (t := 8) rfl (keep_cons (t := 9) rfl keep_nil)))))))) ?_
    refine aw_block ?_
    refine aw_loop (ι := Nat × Int × Int) (fun s => s.1 ≤ (xs.take 20).length ∧ E2 (spn (xs.take 20) s.1) s.2.1 s.2.2) (fun s => [(0, .int .i64 n), (1, .slice a (xs.take 20).length cap), (4, .bool false), (5, .pointer (some ⟨r2_6, 0, none⟩)), (6, .bool false), (7, .int .i64 s.2.1), (8, .int .i64 s.2.2), (9, .int .i64 s.1)]) (fun _ => [(r2_6, .cells (Chart.cells c).toArray 36 (0, 0))]) (fun s => (xs.take 20).length - s.1) (0, -1, -1) (⟨Nat.zero_le _, rfl, rfl⟩) (by repeat (first | exact keep_nil | refine keep_cons rfl ?_)) (by first | exact Sub.refl _ | exact Sub.drop (Sub.refl _) | exact Sub.keep (Sub.drop (Sub.refl _))) ?_
    intro s hi
    obtain ⟨m, f, t⟩ := s
    obtain ⟨hi0, he⟩ := hi
    simp only at hi0 he ⊢
    refine aw_seq ?_
    refine aw_seq_region ?_
    refine sr_x rfl (wtd_none rfl) rfl (Rd.x (x_move rfl)) ?_
    refine sr_x rfl (wtd_none rfl) rfl (Rd.x (x_move rfl)) ?_
    refine sr_x rfl (wtd_none rfl) rfl (Rd.x (x_lenSlice Try.underlying22 rfl)) ?_
    refine sr_cmp rfl (wtd_none rfl) rfl (Rd.x (x_lt rfl rfl)) (fun h1 => ?_) (fun h1 => ?_)
    · refine sr_nil ?_
      refine aw_keep (keep_cons (t := 0) rfl (keep_cons (t := 1) rfl (keep_cons (t := 4) rfl (keep_cons (t := 5) rfl (keep_cons (t := 6) rfl (keep_cons (t := 7) rfl (keep_cons (t := 8) rfl (keep_cons (t := 9) rfl (keep_cons (t := 20) rfl (keep_cons (t := 21) rfl (keep_cons (t := 22) rfl (keep_cons (t := 23) rfl keep_nil)))))))))))) ?_
      refine aw_true rfl ?_
      refine aw_skip ?_
      show AW _ _ _ _ _ _ _
      refine aw_seq ?_
      refine aw_block ?_
      refine aw_seq_region ?_
      obtain ⟨xj, hxj⟩ := get_ex (show m < (xs.take 20).length by omega)
      obtain ⟨bj, oj, haj, hcj⟩ := (hs.take 20).at_ m _ hxj
      refine sr_x rfl (wtd_none rfl) rfl (Rd.x (x_move rfl)) ?_
      refine sr_x rfl (wtd_none rfl) rfl (Rd.x (x_move rfl)) ?_
      refine sr_x rfl (wtd_none rfl) rfl (Rd.x (x_indexAddrN m Try.underlying22 sz28 rfl haj rfl rfl (by omega))) ?_
      refine sr_x rfl (wtd_none rfl) rfl (Rd.x (x_loadN ag28 sz28 rfl (Cells.mono hcj (by repeat (first | exact Sub.refl _ | apply Sub.drop))) rfl)) ?_
      refine sr_new rfl (wtd_none rfl) rfl (x_alloc zr28 rfl) ?_
      intro r7_4 hr7_4 gr7_4
      refine sr_x0 rfl (wtd_none rfl) (x_store sz28 rfl rfl rfl rfl rfl (by repeat (first | exact Repl.here | apply Repl.there)) (by repeat (first | exact Spl.done | exact Spl.all rfl | apply Spl.put | apply Spl.skip))) ?_
      refine sr_nil ?_
      refine aw_keep (keep_cons (t := 0) rfl (keep_cons (t := 1) rfl (keep_cons (t := 4) rfl (keep_cons (t := 5) rfl (keep_cons (t := 6) rfl (keep_cons (t := 7) rfl (keep_cons (t := 8) rfl (keep_cons (t := 9) rfl (keep_cons (t := 10) rfl (keep_cons (t := 20) rfl (keep_cons (t := 21) rfl (keep_cons (t := 22) rfl (keep_cons (t := 23) rfl (keep_cons (t := 26) rfl (keep_cons (t := 27) rfl (keep_cons (t := 28) rfl (keep_cons (t := 29) rfl keep_nil))))))))))))))))) ?_
      refine aw_seq ?_
      refine aw_seq_region ?_
      refine sr_x rfl (wtd_none rfl) rfl (Rd.x (x_fieldAddr fd28_6 rfl)) ?_
      refine sr_x rfl (wtd_none rfl) rfl (Rd.x (x_load ag2 rfl (cells_ext (by repeat (first | exact List.mem_cons_self | apply List.mem_cons_of_mem)) (by repeat (first | exact Ext.all _ | exact Ext.done | apply Ext.take | apply Ext.skip))))) ?_
      refine sr_cmp rfl (wtd_none rfl) rfl (Rd.x (x_lt rfl rfl)) (fun h2 => ?_) (fun h2 => ?_)
      · refine sr_x rfl (wtd_none rfl) rfl (Rd.x (x_move rfl)) ?_
        refine sr_skip rfl (wtd_no rfl rfl rfl rfl) rfl ?_
        refine sr_skip rfl (wtd_no rfl rfl rfl rfl) rfl ?_
        refine sr_skip rfl (wtd_no rfl rfl rfl rfl) rfl ?_
        refine sr_x rfl (wtd_none rfl) rfl (Rd.x (x_pick_t rfl rfl rfl)) ?_
        refine sr_x rfl (wtd_none rfl) rfl (Rd.x (x_move rfl)) ?_
        refine sr_skip rfl (wtd_no rfl rfl rfl rfl) rfl ?_
        refine sr_skip rfl (wtd_no rfl rfl rfl rfl) rfl ?_
        refine sr_skip rfl (wtd_no rfl rfl rfl rfl) rfl ?_
        refine sr_skip rfl (wtd_no rfl rfl rfl rfl) rfl ?_
        refine sr_skip rfl (wtd_no rfl rfl rfl rfl) rfl ?_
        refine sr_x rfl (wtd_none rfl) rfl (Rd.x (x_pick_t rfl rfl rfl)) ?_
        refine sr_x rfl (wtd_none rfl) rfl (Rd.x (x_move rfl)) ?_
        refine sr_skip rfl (wtd_no rfl rfl rfl rfl) rfl ?_
        refine sr_skip rfl (wtd_no rfl rfl rfl rfl) rfl ?_
        refine sr_skip rfl (wtd_no rfl rfl rfl rfl) rfl ?_
        refine sr_x rfl (wtd_none rfl) rfl (Rd.x (x_pick_t rfl rfl rfl)) ?_
        refine sr_nil ?_
        refine aw_keep (keep_cons (t := 0) rfl (keep_cons (t := 1) rfl (keep_cons (t := 4) rfl (keep_cons (t := 5) rfl (keep_cons (t := 6) rfl (keep_cons (t := 7) rfl (keep_cons (t := 8) rfl (keep_cons (t := 9) rfl (keep_cons (t := 10) rfl (keep_cons (t := 20) rfl (keep_cons (t := 21) rfl (keep_cons (t := 22) rfl (keep_cons (t := 23) rfl (keep_cons (t := 26) rfl (keep_cons (t := 27) rfl (keep_cons (t := 28) rfl (keep_cons (t := 29) rfl (keep_cons (t := 30) rfl (keep_cons (t := 31) rfl (keep_cons (t := 32) rfl (keep_cons (t := 33) rfl (keep_cons (t := 34) rfl (keep_cons (t := 35) rfl (keep_cons (t := 36) rfl (keep_cons (t := 37) rfl (keep_cons (t := 38) rfl (keep_cons (t := 39) rfl (keep_cons (t := 40) rfl (keep_cons (t := 41) rfl (keep_cons (t := 42) rfl (keep_cons (t := 43) rfl (keep_cons (t := 44) rfl (keep_cons (t := 45) rfl (keep_cons (t := 46) rfl (keep_cons (t := 47) rfl (keep_cons (t := 48) rfl (keep_cons (t := 49) rfl keep_nil))))))))))))))))))))))))))))))))))))) ?_
        refine aw_true rfl ?_
        refine aw_exit ?_
        show AW _ _ _ _ _ _ _
        refine aw_region ?_
        refine sr_x rfl (wtd_none rfl) rfl (Rd.x (x_move rfl)) ?_
        refine sr_x rfl (wtd_none rfl) rfl (Rd.x (x_add' rfl rfl (i64w (by omega) (by omega)))) ?_
        refine sr_x rfl (wtd_none rfl) rfl (Rd.x (x_assign rfl)) ?_
        refine sr_nil ?_
        show ∃ s', _ ∧ _ ∧ _ ∧ _
        first | exact ⟨(m + 1, xj.start, xj.fin), ⟨by show m + 1 ≤ _; omega, e2_yes (f' := xj.start) (t' := xj.fin) hxj ⟨by omega, by omega, by omega, by omega⟩ he (by omega) (by omega)⟩, by show _ - (m + 1) < _ - m; omega, (by repeat (first | exact keep_nil | refine keep_cons rfl ?_)), (by first | exact Sub.refl _ | exact Sub.drop (Sub.refl _) | exact Sub.keep (Sub.drop (Sub.refl _)))⟩ | exact ⟨(m + 1, xj.start, t), ⟨by show m + 1 ≤ _; omega, e2_yes (f' := xj.start) (t' := t) hxj ⟨by omega, by omega, by omega, by omega⟩ he (by omega) (by omega)⟩, by show _ - (m + 1) < _ - m; omega, (by repeat (first | exact keep_nil | refine keep_cons rfl ?_)), (by first | exact Sub.refl _ | exact Sub.drop (Sub.refl _) | exact Sub.keep (Sub.drop (Sub.refl _)))⟩ | exact ⟨(m + 1, f, xj.fin), ⟨by show m + 1 ≤ _; omega, e2_yes (f' := f) (t' := xj.fin) hxj ⟨by omega, by omega, by omega, by omega⟩ he (by omega) (by omega)⟩, by show _ - (m + 1) < _ - m; omega, (by repeat (first | exact keep_nil | refine keep_cons rfl ?_)), (by first | exact Sub.refl _ | exact Sub.drop (Sub.refl _) | exact Sub.keep (Sub.drop (Sub.refl _)))⟩ | exact ⟨(m + 1, f, t), ⟨by show m + 1 ≤ _; omega, e2_yes (f' := f) (t' := t) hxj ⟨by omega, by omega, by omega, by omega⟩ he (by omega) (by omega)⟩, by show _ - (m + 1) < _ - m; omega, (by repeat (first | exact keep_nil | refine keep_cons rfl ?_)), (by first | exact Sub.refl _ | exact Sub.drop (Sub.refl _) | exact Sub.keep (Sub.drop (Sub.refl _)))⟩ | exact ⟨(m + 1, _, _), ⟨by show m + 1 ≤ _; omega, e2_no hxj (by unfold okF; omega) he⟩, by show _ - (m + 1) < _ - m; omega, (by repeat (first | exact keep_nil | refine keep_cons rfl ?_)), (by first | exact Sub.refl _ | exact Sub.drop (Sub.refl _) | exact Sub.keep (Sub.drop (Sub.refl _)))⟩
      · refine sr_x rfl (wtd_none rfl) rfl (Rd.x (x_move rfl)) ?_
        refine sr_x rfl (wtd_yes rfl rfl rfl) rfl (Rd.x (x_fieldAddr fd28_6 rfl)) ?_
        refine sr_x rfl (wtd_yes rfl rfl rfl) rfl (Rd.x (x_load ag2 rfl (cells_ext (by repeat (first | exact List.mem_cons_self | apply List.mem_cons_of_mem)) (by repeat (first | exact Ext.all _ | exact Ext.done | apply Ext.take | apply Ext.skip))))) ?_
        refine sr_cmp rfl (wtd_yes rfl rfl rfl) rfl (Rd.x (x_gt rfl rfl)) (fun h3 => ?_) (fun h3 => ?_)
        · refine sr_x rfl (wtd_none rfl) rfl (Rd.x (x_pick_f rfl rfl rfl)) ?_
          refine sr_x rfl (wtd_none rfl) rfl (Rd.x (x_move rfl)) ?_
          refine sr_skip rfl (wtd_no rfl rfl rfl rfl) rfl ?_
          refine sr_skip rfl (wtd_no rfl rfl rfl rfl) rfl ?_
          refine sr_skip rfl (wtd_no rfl rfl rfl rfl) rfl ?_
          refine sr_skip rfl (wtd_no rfl rfl rfl rfl) rfl ?_
          refine sr_skip rfl (wtd_no rfl rfl rfl rfl) rfl ?_
          refine sr_x rfl (wtd_none rfl) rfl (Rd.x (x_pick_t rfl rfl rfl)) ?_
          refine sr_x rfl (wtd_none rfl) rfl (Rd.x (x_move rfl)) ?_
          refine sr_skip rfl (wtd_no rfl rfl rfl rfl) rfl ?_
          refine sr_skip rfl (wtd_no rfl rfl rfl rfl) rfl ?_
          refine sr_skip rfl (wtd_no rfl rfl rfl rfl) rfl ?_
          refine sr_x rfl (wtd_none rfl) rfl (Rd.x (x_pick_t rfl rfl rfl)) ?_
          refine sr_nil ?_
          refine aw_keep (keep_cons (t := 0) rfl (keep_cons (t := 1) rfl (keep_cons (t := 4) rfl (keep_cons (t := 5) rfl (keep_cons (t := 6) rfl (keep_cons (t := 7) rfl (keep_cons (t := 8) rfl (keep_cons (t := 9) rfl (keep_cons (t := 10) rfl (keep_cons (t := 20) rfl (keep_cons (t := 21) rfl (keep_cons (t := 22) rfl (keep_cons (t := 23) rfl (keep_cons (t := 26) rfl (keep_cons (t := 27) rfl (keep_cons (t := 28) rfl (keep_cons (t := 29) rfl (keep_cons (t := 30) rfl (keep_cons (t := 31) rfl (keep_cons (t := 32) rfl (keep_cons (t := 33) rfl (keep_cons (t := 34) rfl (keep_cons (t := 35) rfl (keep_cons (t := 36) rfl (keep_cons (t := 37) rfl (keep_cons (t := 38) rfl (keep_cons (t := 39) rfl (keep_cons (t := 40) rfl (keep_cons (t := 41) rfl (keep_cons (t := 42) rfl (keep_cons (t := 43) rfl (keep_cons (t := 44) rfl (keep_cons (t := 45) rfl (keep_cons (t := 46) rfl (keep_cons (t := 47) rfl (keep_cons (t := 48) rfl (keep_cons (t := 49) rfl keep_nil))))))))))))))))))))))))))))))))))))) ?_
          refine aw_true rfl ?_
          refine aw_exit ?_
          show AW _ _ _ _ _ _ _
          refine aw_region ?_
          refine sr_x rfl (wtd_none rfl) rfl (Rd.x (x_move rfl)) ?_
          refine sr_x rfl (wtd_none rfl) rfl (Rd.x (x_add' rfl rfl (i64w (by omega) (by omega)))) ?_
          refine sr_x rfl (wtd_none rfl) rfl (Rd.x (x_assign rfl)) ?_
          refine sr_nil ?_
          show ∃ s', _ ∧ _ ∧ _ ∧ _
          first | exact ⟨(m + 1, xj.start, xj.fin), ⟨by show m + 1 ≤ _; omega, e2_yes (f' := xj.start) (t' := xj.fin) hxj ⟨by omega, by omega, by omega, by omega⟩ he (by omega) (by omega)⟩, by show _ - (m + 1) < _ - m; omega, (by repeat (first | exact keep_nil | refine keep_cons rfl ?_)), (by first | exact Sub.refl _ | exact Sub.drop (Sub.refl _) | exact Sub.keep (Sub.drop (Sub.refl _)))⟩ | exact ⟨(m + 1, xj.start, t), ⟨by show m + 1 ≤ _; omega, e2_yes (f' := xj.start) (t' := t) hxj ⟨by omega, by omega, by omega, by omega⟩ he (by omega) (by omega)⟩, by show _ - (m + 1) < _ - m; omega, (by repeat (first | exact keep_nil | refine keep_cons rfl ?_)), (by first | exact Sub.refl _ | exact Sub.drop (Sub.refl _) | exact Sub.keep (Sub.drop (Sub.refl _)))⟩ | exact ⟨(m + 1, f, xj.fin), ⟨by show m + 1 ≤ _; omega, e2_yes (f' := f) (t' := xj.fin) hxj ⟨by omega, by omega, by omega, by omega⟩ he (by omega) (by omega)⟩, by show _ - (m + 1) < _ - m; omega, (by repeat (first | exact keep_nil | refine keep_cons rfl ?_)), (by first | exact Sub.refl _ | exact Sub.drop (Sub.refl _) | exact Sub.keep (Sub.drop (Sub.refl _)))⟩ | exact ⟨(m + 1, f, t), ⟨by show m + 1 ≤ _; omega, e2_yes (f' := f) (t' := t) hxj ⟨by omega, by omega, by omega, by omega⟩ he (by omega) (by omega)⟩, by show _ - (m + 1) < _ - m; omega, (by repeat (first | exact keep_nil | refine keep_cons rfl ?_)), (by first | exact Sub.refl _ | exact Sub.drop (Sub.refl _) | exact Sub.keep (Sub.drop (Sub.refl _)))⟩ | exact ⟨(m + 1, _, _), ⟨by show m + 1 ≤ _; omega, e2_no hxj (by unfold okF; omega) he⟩, by show _ - (m + 1) < _ - m; omega, (by repeat (first | exact keep_nil | refine keep_cons rfl ?_)), (by first | exact Sub.refl _ | exact Sub.drop (Sub.refl _) | exact Sub.keep (Sub.drop (Sub.refl _)))⟩
        · refine sr_x rfl (wtd_none rfl) rfl (Rd.x (x_pick_f rfl rfl rfl)) ?_
          refine sr_x rfl (wtd_none rfl) rfl (Rd.x (x_move rfl)) ?_
          refine sr_x rfl (wtd_yes rfl rfl rfl) rfl (Rd.x (x_fieldAddr fd28_7 rfl)) ?_
          refine sr_x rfl (wtd_yes rfl rfl rfl) rfl (Rd.x (x_load ag2 rfl (cells_ext (by repeat (first | exact List.mem_cons_self | apply List.mem_cons_of_mem)) (by repeat (first | exact Ext.all _ | exact Ext.done | apply Ext.take | apply Ext.skip))))) ?_
          refine sr_x rfl (wtd_yes rfl rfl rfl) rfl (Rd.x (x_fieldAddr fd28_6 rfl)) ?_
          refine sr_x rfl (wtd_yes rfl rfl rfl) rfl (Rd.x (x_load ag2 rfl (cells_ext (by repeat (first | exact List.mem_cons_self | apply List.mem_cons_of_mem)) (by repeat (first | exact Ext.all _ | exact Ext.done | apply Ext.take | apply Ext.skip))))) ?_
          refine sr_cmp rfl (wtd_yes rfl rfl rfl) rfl (Rd.x (x_le rfl rfl)) (fun h4 => ?_) (fun h4 => ?_)
          · refine sr_x rfl (wtd_none rfl) rfl (Rd.x (x_pick_f rfl rfl rfl)) ?_
            refine sr_x rfl (wtd_none rfl) rfl (Rd.x (x_move rfl)) ?_
            refine sr_skip rfl (wtd_no rfl rfl rfl rfl) rfl ?_
            refine sr_skip rfl (wtd_no rfl rfl rfl rfl) rfl ?_
            refine sr_skip rfl (wtd_no rfl rfl rfl rfl) rfl ?_
            refine sr_x rfl (wtd_none rfl) rfl (Rd.x (x_pick_t rfl rfl rfl)) ?_
            refine sr_nil ?_
            refine aw_keep (keep_cons (t := 0) rfl (keep_cons (t := 1) rfl (keep_cons (t := 4) rfl (keep_cons (t := 5) rfl (keep_cons (t := 6) rfl (keep_cons (t := 7) rfl (keep_cons (t := 8) rfl (keep_cons (t := 9) rfl (keep_cons (t := 10) rfl (keep_cons (t := 20) rfl (keep_cons (t := 21) rfl (keep_cons (t := 22) rfl (keep_cons (t := 23) rfl (keep_cons (t := 26) rfl (keep_cons (t := 27) rfl (keep_cons (t := 28) rfl (keep_cons (t := 29) rfl (keep_cons (t := 30) rfl (keep_cons (t := 31) rfl (keep_cons (t := 32) rfl (keep_cons (t := 33) rfl (keep_cons (t := 34) rfl (keep_cons (t := 35) rfl (keep_cons (t := 36) rfl (keep_cons (t := 37) rfl (keep_cons (t := 38) rfl (keep_cons (t := 39) rfl (keep_cons (t := 40) rfl (keep_cons (t := 41) rfl (keep_cons (t := 42) rfl (keep_cons (t := 43) rfl (keep_cons (t := 44) rfl (keep_cons (t := 45) rfl (keep_cons (t := 46) rfl (keep_cons (t := 47) rfl (keep_cons (t := 48) rfl (keep_cons (t := 49) rfl keep_nil))))))))))))))))))))))))))))))))))))) ?_
            refine aw_true rfl ?_
            refine aw_exit ?_
            show AW _ _ _ _ _ _ _
            refine aw_region ?_
            refine sr_x rfl (wtd_none rfl) rfl (Rd.x (x_move rfl)) ?_
            refine sr_x rfl (wtd_none rfl) rfl (Rd.x (x_add' rfl rfl (i64w (by omega) (by omega)))) ?_
            refine sr_x rfl (wtd_none rfl) rfl (Rd.x (x_assign rfl)) ?_
            refine sr_nil ?_
            show ∃ s', _ ∧ _ ∧ _ ∧ _
            first | exact ⟨(m + 1, xj.start, xj.fin), ⟨by show m + 1 ≤ _; omega, e2_yes (f' := xj.start) (t' := xj.fin) hxj ⟨by omega, by omega, by omega, by omega⟩ he (by omega) (by omega)⟩, by show _ - (m + 1) < _ - m; omega, (by repeat (first | exact keep_nil | refine keep_cons rfl ?_)), (by first | exact Sub.refl _ | exact Sub.drop (Sub.refl _) | exact Sub.keep (Sub.drop (Sub.refl _)))⟩ | exact ⟨(m + 1, xj.start, t), ⟨by show m + 1 ≤ _; omega, e2_yes (f' := xj.start) (t' := t) hxj ⟨by omega, by omega, by omega, by omega⟩ he (by omega) (by omega)⟩, by show _ - (m + 1) < _ - m; omega, (by repeat (first | exact keep_nil | refine keep_cons rfl ?_)), (by first | exact Sub.refl _ | exact Sub.drop (Sub.refl _) | exact Sub.keep (Sub.drop (Sub.refl _)))⟩ | exact ⟨(m + 1, f, xj.fin), ⟨by show m + 1 ≤ _; omega, e2_yes (f' := f) (t' := xj.fin) hxj ⟨by omega, by omega, by omega, by omega⟩ he (by omega) (by omega)⟩, by show _ - (m + 1) < _ - m; omega, (by repeat (first | exact keep_nil | refine keep_cons rfl ?_)), (by first | exact Sub.refl _ | exact Sub.drop (Sub.refl _) | exact Sub.keep (Sub.drop (Sub.refl _)))⟩ | exact ⟨(m + 1, f, t), ⟨by show m + 1 ≤ _; omega, e2_yes (f' := f) (t' := t) hxj ⟨by omega, by omega, by omega, by omega⟩ he (by omega) (by omega)⟩, by show _ - (m + 1) < _ - m; omega, (by repeat (first | exact keep_nil | refine keep_cons rfl ?_)), (by first | exact Sub.refl _ | exact Sub.drop (Sub.refl _) | exact Sub.keep (Sub.drop (Sub.refl _)))⟩ | exact ⟨(m + 1, _, _), ⟨by show m + 1 ≤ _; omega, e2_no hxj (by unfold okF; omega) he⟩, by show _ - (m + 1) < _ - m; omega, (by repeat (first | exact keep_nil | refine keep_cons rfl ?_)), (by first | exact Sub.refl _ | exact Sub.drop (Sub.refl _) | exact Sub.keep (Sub.drop (Sub.refl _)))⟩
          · refine sr_x rfl (wtd_none rfl) rfl (Rd.x (x_pick_f rfl rfl rfl)) ?_
            refine sr_x rfl (wtd_none rfl) rfl (Rd.x (x_move rfl)) ?_
            refine sr_x rfl (wtd_yes rfl rfl rfl) rfl (Rd.x (x_fieldAddr fd28_7 rfl)) ?_
            refine sr_x rfl (wtd_yes rfl rfl rfl) rfl (Rd.x (x_load ag2 rfl (cells_ext (by repeat (first | exact List.mem_cons_self | apply List.mem_cons_of_mem)) (by repeat (first | exact Ext.all _ | exact Ext.done | apply Ext.take | apply Ext.skip))))) ?_
            refine sr_cmp rfl (wtd_yes rfl rfl rfl) rfl (Rd.x (x_gt rfl rfl)) (fun h5 => ?_) (fun h5 => ?_)
            · refine sr_x rfl (wtd_none rfl) rfl (Rd.x (x_pick_f rfl rfl rfl)) ?_
              refine sr_nil ?_
              refine aw_keep (keep_cons (t := 0) rfl (keep_cons (t := 1) rfl (keep_cons (t := 4) rfl (keep_cons (t := 5) rfl (keep_cons (t := 6) rfl (keep_cons (t := 7) rfl (keep_cons (t := 8) rfl (keep_cons (t := 9) rfl (keep_cons (t := 10) rfl (keep_cons (t := 20) rfl (keep_cons (t := 21) rfl (keep_cons (t := 22) rfl (keep_cons (t := 23) rfl (keep_cons (t := 26) rfl (keep_cons (t := 27) rfl (keep_cons (t := 28) rfl (keep_cons (t := 29) rfl (keep_cons (t := 30) rfl (keep_cons (t := 31) rfl (keep_cons (t := 32) rfl (keep_cons (t := 33) rfl (keep_cons (t := 34) rfl (keep_cons (t := 35) rfl (keep_cons (t := 36) rfl (keep_cons (t := 37) rfl (keep_cons (t := 38) rfl (keep_cons (t := 39) rfl (keep_cons (t := 40) rfl (keep_cons (t := 41) rfl (keep_cons (t := 42) rfl (keep_cons (t := 43) rfl (keep_cons (t := 44) rfl (keep_cons (t := 45) rfl (keep_cons (t := 46) rfl (keep_cons (t := 47) rfl (keep_cons (t := 48) rfl (keep_cons (t := 49) rfl keep_nil))))))))))))))))))))))))))))))))))))) ?_
              refine aw_true rfl ?_
              refine aw_exit ?_
              show AW _ _ _ _ _ _ _
              refine aw_region ?_
              refine sr_x rfl (wtd_none rfl) rfl (Rd.x (x_move rfl)) ?_
              refine sr_x rfl (wtd_none rfl) rfl (Rd.x (x_add' rfl rfl (i64w (by omega) (by omega)))) ?_
              refine sr_x rfl (wtd_none rfl) rfl (Rd.x (x_assign rfl)) ?_
              refine sr_nil ?_
              show ∃ s', _ ∧ _ ∧ _ ∧ _
              first | exact ⟨(m + 1, xj.start, xj.fin), ⟨by show m + 1 ≤ _; omega, e2_yes (f' := xj.start) (t' := xj.fin) hxj ⟨by omega, by omega, by omega, by omega⟩ he (by omega) (by omega)⟩, by show _ - (m + 1) < _ - m; omega, (by repeat (first | exact keep_nil | refine keep_cons rfl ?_)), (by first | exact Sub.refl _ | exact Sub.drop (Sub.refl _) | exact Sub.keep (Sub.drop (Sub.refl _)))⟩ | exact ⟨(m + 1, xj.start, t), ⟨by show m + 1 ≤ _; omega, e2_yes (f' := xj.start) (t' := t) hxj ⟨by omega, by omega, by omega, by omega⟩ he (by omega) (by omega)⟩, by show _ - (m + 1) < _ - m; omega, (by repeat (first | exact keep_nil | refine keep_cons rfl ?_)), (by first | exact Sub.refl _ | exact Sub.drop (Sub.refl _) | exact Sub.keep (Sub.drop (Sub.refl _)))⟩ | exact ⟨(m + 1, f, xj.fin), ⟨by show m + 1 ≤ _; omega, e2_yes (f' := f) (t' := xj.fin) hxj ⟨by omega, by omega, by omega, by omega⟩ he (by omega) (by omega)⟩, by show _ - (m + 1) < _ - m; omega, (by repeat (first | exact keep_nil | refine keep_cons rfl ?_)), (by first | exact Sub.refl _ | exact Sub.drop (Sub.refl _) | exact Sub.keep (Sub.drop (Sub.refl _)))⟩ | exact ⟨(m + 1, f, t), ⟨by show m + 1 ≤ _; omega, e2_yes (f' := f) (t' := t) hxj ⟨by omega, by omega, by omega, by omega⟩ he (by omega) (by omega)⟩, by show _ - (m + 1) < _ - m; omega, (by repeat (first | exact keep_nil | refine keep_cons rfl ?_)), (by first | exact Sub.refl _ | exact Sub.drop (Sub.refl _) | exact Sub.keep (Sub.drop (Sub.refl _)))⟩ | exact ⟨(m + 1, _, _), ⟨by show m + 1 ≤ _; omega, e2_no hxj (by unfold okF; omega) he⟩, by show _ - (m + 1) < _ - m; omega, (by repeat (first | exact keep_nil | refine keep_cons rfl ?_)), (by first | exact Sub.refl _ | exact Sub.drop (Sub.refl _) | exact Sub.keep (Sub.drop (Sub.refl _)))⟩
            · refine sr_x rfl (wtd_none rfl) rfl (Rd.x (x_pick_f rfl rfl rfl)) ?_
              refine sr_nil ?_
              refine aw_keep (keep_cons (t := 0) rfl (keep_cons (t := 1) rfl (keep_cons (t := 4) rfl (keep_cons (t := 5) rfl (keep_cons (t := 6) rfl (keep_cons (t := 7) rfl (keep_cons (t := 8) rfl (keep_cons (t := 9) rfl (keep_cons (t := 10) rfl (keep_cons (t := 20) rfl (keep_cons (t := 21) rfl (keep_cons (t := 22) rfl (keep_cons (t := 23) rfl (keep_cons (t := 26) rfl (keep_cons (t := 27) rfl (keep_cons (t := 28) rfl (keep_cons (t := 29) rfl (keep_cons (t := 30) rfl (keep_cons (t := 31) rfl (keep_cons (t := 32) rfl (keep_cons (t := 33) rfl (keep_cons (t := 34) rfl (keep_cons (t := 35) rfl (keep_cons (t := 36) rfl (keep_cons (t := 37) rfl (keep_cons (t := 38) rfl (keep_cons (t := 39) rfl (keep_cons (t := 40) rfl (keep_cons (t := 41) rfl (keep_cons (t := 42) rfl (keep_cons (t := 43) rfl (keep_cons (t := 44) rfl (keep_cons (t := 45) rfl (keep_cons (t := 46) rfl (keep_cons (t := 47) rfl (keep_cons (t := 48) rfl (keep_cons (t := 49) rfl keep_nil))))))))))))))))))))))))))))))))))))) ?_
              refine aw_false rfl ?_
              refine aw_skip ?_
              show AW _ _ _ _ _ _ _
              refine aw_seq ?_
              refine aw_seq_region ?_
              refine sr_x rfl (wtd_none rfl) rfl (Rd.x (x_move rfl)) ?_
              refine sr_cmp rfl (wtd_none rfl) rfl (Rd.x (x_lt rfl rfl)) (fun h6 => ?_) (fun h6 => ?_)
              · refine sr_x rfl (wtd_none rfl) rfl (Rd.x (x_move rfl)) ?_
                refine sr_skip rfl (wtd_no rfl rfl rfl rfl) rfl ?_
                refine sr_skip rfl (wtd_no rfl rfl rfl rfl) rfl ?_
                refine sr_skip rfl (wtd_no rfl rfl rfl rfl) rfl ?_
                refine sr_skip rfl (wtd_no rfl rfl rfl rfl) rfl ?_
                refine sr_x rfl (wtd_none rfl) rfl (Rd.x (x_pick_t rfl rfl rfl)) ?_
                refine sr_nil ?_
                refine aw_keep (keep_cons (t := 0) rfl (keep_cons (t := 1) rfl (keep_cons (t := 4) rfl (keep_cons (t := 5) rfl (keep_cons (t := 6) rfl (keep_cons (t := 7) rfl (keep_cons (t := 8) rfl (keep_cons (t := 9) rfl (keep_cons (t := 10) rfl (keep_cons (t := 20) rfl (keep_cons (t := 21) rfl (keep_cons (t := 22) rfl (keep_cons (t := 23) rfl (keep_cons (t := 26) rfl (keep_cons (t := 27) rfl (keep_cons (t := 28) rfl (keep_cons (t := 29) rfl (keep_cons (t := 30) rfl (keep_cons (t := 31) rfl (keep_cons (t := 32) rfl (keep_cons (t := 33) rfl (keep_cons (t := 34) rfl (keep_cons (t := 35) rfl (keep_cons (t := 36) rfl (keep_cons (t := 37) rfl (keep_cons (t := 38) rfl (keep_cons (t := 39) rfl (keep_cons (t := 40) rfl (keep_cons (t := 41) rfl (keep_cons (t := 42) rfl (keep_cons (t := 43) rfl (keep_cons (t := 44) rfl (keep_cons (t := 45) rfl (keep_cons (t := 46) rfl (keep_cons (t := 47) rfl (keep_cons (t := 48) rfl (keep_cons (t := 49) rfl (keep_cons (t := 50) rfl (keep_cons (t := 51) rfl (keep_cons (t := 52) rfl (keep_cons (t := 53) rfl (keep_cons (t := 54) rfl (keep_cons (t := 55) rfl (keep_cons (t := 56) rfl (keep_cons (t := 57) rfl keep_nil))))))))))))))))))))))))))))))))))))))))))))) ?_
                refine aw_true rfl ?_
                refine aw_region ?_
                refine sr_x rfl (wtd_none rfl) rfl (Rd.x (x_fieldAddr fd28_6 rfl)) ?_
                refine sr_x rfl (wtd_none rfl) rfl (Rd.x (x_load ag2 rfl (cells_ext (by repeat (first | exact List.mem_cons_self | apply List.mem_cons_of_mem)) (by repeat (first | exact Ext.all _ | exact Ext.done | apply Ext.take | apply Ext.skip))))) ?_
                refine sr_x rfl (wtd_none rfl) rfl (Rd.x (x_assign rfl)) ?_
                refine sr_nil ?_
                show AW _ _ _ _ _ _ _
                refine aw_seq_region ?_
                refine sr_x rfl (wtd_none rfl) rfl (Rd.x (x_fieldAddr fd28_7 rfl)) ?_
                refine sr_x rfl (wtd_none rfl) rfl (Rd.x (x_load ag2 rfl (cells_ext (by repeat (first | exact List.mem_cons_self | apply List.mem_cons_of_mem)) (by repeat (first | exact Ext.all _ | exact Ext.done | apply Ext.take | apply Ext.skip))))) ?_
                refine sr_x rfl (wtd_none rfl) rfl (Rd.x (x_move rfl)) ?_
                refine sr_cmp rfl (wtd_none rfl) rfl (Rd.x (x_gt rfl rfl)) (fun h7 => ?_) (fun h7 => ?_)
                · refine sr_nil ?_
                  refine aw_keep (keep_cons (t := 0) rfl (keep_cons (t := 1) rfl (keep_cons (t := 4) rfl (keep_cons (t := 5) rfl (keep_cons (t := 6) rfl (keep_cons (t := 7) rfl (keep_cons (t := 8) rfl (keep_cons (t := 9) rfl (keep_cons (t := 10) rfl (keep_cons (t := 20) rfl (keep_cons (t := 21) rfl (keep_cons (t := 22) rfl (keep_cons (t := 23) rfl (keep_cons (t := 26) rfl (keep_cons (t := 27) rfl (keep_cons (t := 28) rfl (keep_cons (t := 29) rfl (keep_cons (t := 30) rfl (keep_cons (t := 31) rfl (keep_cons (t := 32) rfl (keep_cons (t := 33) rfl (keep_cons (t := 34) rfl (keep_cons (t := 35) rfl (keep_cons (t := 36) rfl (keep_cons (t := 37) rfl (keep_cons (t := 38) rfl (keep_cons (t := 39) rfl (keep_cons (t := 40) rfl (keep_cons (t := 41) rfl (keep_cons (t := 42) rfl (keep_cons (t := 43) rfl (keep_cons (t := 44) rfl (keep_cons (t := 45) rfl (keep_cons (t := 46) rfl (keep_cons (t := 47) rfl (keep_cons (t := 48) rfl (keep_cons (t := 49) rfl (keep_cons (t := 50) rfl (keep_cons (t := 51) rfl (keep_cons (t := 52) rfl (keep_cons (t := 53) rfl (keep_cons (t := 54) rfl (keep_cons (t := 55) rfl (keep_cons (t := 56) rfl (keep_cons (t := 57) rfl (keep_cons (t := 58) rfl (keep_cons (t := 59) rfl (keep_cons (t := 60) rfl (keep_cons (t := 61) rfl (keep_cons (t := 62) rfl (keep_cons (t := 63) rfl keep_nil))))))))))))))))))))))))))))))))))))))))))))))))))) ?_
                  refine aw_true rfl ?_
                  refine aw_region ?_
                  refine sr_x rfl (wtd_none rfl) rfl (Rd.x (x_fieldAddr fd28_7 rfl)) ?_
                  refine sr_x rfl (wtd_none rfl) rfl (Rd.x (x_load ag2 rfl (cells_ext (by repeat (first | exact List.mem_cons_self | apply List.mem_cons_of_mem)) (by repeat (first | exact Ext.all _ | exact Ext.done | apply Ext.take | apply Ext.skip))))) ?_
                  refine sr_x rfl (wtd_none rfl) rfl (Rd.x (x_assign rfl)) ?_
                  refine sr_nil ?_
                  show AW _ _ _ _ _ _ _
                  refine aw_region ?_
                  refine sr_x rfl (wtd_none rfl) rfl (Rd.x (x_move rfl)) ?_
                  refine sr_x rfl (wtd_none rfl) rfl (Rd.x (x_add' rfl rfl (i64w (by omega) (by omega)))) ?_
                  refine sr_x rfl (wtd_none rfl) rfl (Rd.x (x_assign rfl)) ?_
                  refine sr_nil ?_
                  show ∃ s', _ ∧ _ ∧ _ ∧ _
                  first | exact ⟨(m + 1, xj.start, xj.fin), ⟨by show m + 1 ≤ _; omega, e2_yes (f' := xj.start) (t' := xj.fin) hxj ⟨by omega, by omega, by omega, by omega⟩ he (by omega) (by omega)⟩, by show _ - (m + 1) < _ - m; omega, (by repeat (first | exact keep_nil | refine keep_cons rfl ?_)), (by first | exact Sub.refl _ | exact Sub.drop (Sub.refl _) | exact Sub.keep (Sub.drop (Sub.refl _)))⟩ | exact ⟨(m + 1, xj.start, t), ⟨by show m + 1 ≤ _; omega, e2_yes (f' := xj.start) (t' := t) hxj ⟨by omega, by omega, by omega, by omega⟩ he (by omega) (by omega)⟩, by show _ - (m + 1) < _ - m; omega, (by repeat (first | exact keep_nil | refine keep_cons rfl ?_)), (by first | exact Sub.refl _ | exact Sub.drop (Sub.refl _) | exact Sub.keep (Sub.drop (Sub.refl _)))⟩ | exact ⟨(m + 1, f, xj.fin), ⟨by show m + 1 ≤ _; omega, e2_yes (f' := f) (t' := xj.fin) hxj ⟨by omega, by omega, by omega, by omega⟩ he (by omega) (by omega)⟩, by show _ - (m + 1) < _ - m; omega, (by repeat (first | exact keep_nil | refine keep_cons rfl ?_)), (by first | exact Sub.refl _ | exact Sub.drop (Sub.refl _) | exact Sub.keep (Sub.drop (Sub.refl _)))⟩ | exact ⟨(m + 1, f, t), ⟨by show m + 1 ≤ _; omega, e2_yes (f' := f) (t' := t) hxj ⟨by omega, by omega, by omega, by omega⟩ he (by omega) (by omega)⟩, by show _ - (m + 1) < _ - m; omega, (by repeat (first | exact keep_nil | refine keep_cons rfl ?_)), (by first | exact Sub.refl _ | exact Sub.drop (Sub.refl _) | exact Sub.keep (Sub.drop (Sub.refl _)))⟩ | exact ⟨(m + 1, _, _), ⟨by show m + 1 ≤ _; omega, e2_no hxj (by unfold okF; omega) he⟩, by show _ - (m + 1) < _ - m; omega, (by repeat (first | exact keep_nil | refine keep_cons rfl ?_)), (by first | exact Sub.refl _ | exact Sub.drop (Sub.refl _) | exact Sub.keep (Sub.drop (Sub.refl _)))⟩
                · refine sr_nil ?_
                  refine aw_keep (keep_cons (t := 0) rfl (keep_cons (t := 1) rfl (keep_cons (t := 4) rfl (keep_cons (t := 5) rfl (keep_cons (t := 6) rfl (keep_cons (t := 7) rfl (keep_cons (t := 8) rfl (keep_cons (t := 9) rfl (keep_cons (t := 10) rfl (keep_cons (t := 20) rfl (keep_cons (t := 21) rfl (keep_cons (t := 22) rfl (keep_cons (t := 23) rfl (keep_cons (t := 26) rfl (keep_cons (t := 27) rfl (keep_cons (t := 28) rfl (keep_cons (t := 29) rfl (keep_cons (t := 30) rfl (keep_cons (t := 31) rfl (keep_cons (t := 32) rfl (keep_cons (t := 33) rfl (keep_cons (t := 34) rfl (keep_cons (t := 35) rfl (keep_cons (t := 36) rfl (keep_cons (t := 37) rfl (keep_cons (t := 38) rfl (keep_cons (t := 39) rfl (keep_cons (t := 40) rfl (keep_cons (t := 41) rfl (keep_cons (t := 42) rfl (keep_cons (t := 43) rfl (keep_cons (t := 44) rfl (keep_cons (t := 45) rfl (keep_cons (t := 46) rfl (keep_cons (t := 47) rfl (keep_cons (t := 48) rfl (keep_cons (t := 49) rfl (keep_cons (t := 50) rfl (keep_cons (t := 51) rfl (keep_cons (t := 52) rfl (keep_cons (t := 53) rfl (keep_cons (t := 54) rfl (keep_cons (t := 55) rfl (keep_cons (t := 56) rfl (keep_cons (t := 57) rfl (keep_cons (t := 58) rfl (keep_cons (t := 59) rfl (keep_cons (t := 60) rfl (keep_cons (t := 61) rfl (keep_cons (t := 62) rfl (keep_cons (t := 63) rfl keep_nil))))))))))))))))))))))))))))))))))))))))))))))))))) ?_
                  refine aw_false rfl ?_
                  refine aw_skip ?_
                  show AW _ _ _ _ _ _ _
                  refine aw_region ?_
                  refine sr_x rfl (wtd_none rfl) rfl (Rd.x (x_move rfl)) ?_
                  refine sr_x rfl (wtd_none rfl) rfl (Rd.x (x_add' rfl rfl (i64w (by omega) (by omega)))) ?_
                  refine sr_x rfl (wtd_none rfl) rfl (Rd.x (x_assign rfl)) ?_
                  refine sr_nil ?_
                  show ∃ s', _ ∧ _ ∧ _ ∧ _
                  first | exact ⟨(m + 1, xj.start, xj.fin), ⟨by show m + 1 ≤ _; omega, e2_yes (f' := xj.start) (t' := xj.fin) hxj ⟨by omega, by omega, by omega, by omega⟩ he (by omega) (by omega)⟩, by show _ - (m + 1) < _ - m; omega, (by repeat (first | exact keep_nil | refine keep_cons rfl ?_)), (by first | exact Sub.refl _ | exact Sub.drop (Sub.refl _) | exact Sub.keep (Sub.drop (Sub.refl _)))⟩ | exact ⟨(m + 1, xj.start, t), ⟨by show m + 1 ≤ _; omega, e2_yes (f' := xj.start) (t' := t) hxj ⟨by omega, by omega, by omega, by omega⟩ he (by omega) (by omega)⟩, by show _ - (m + 1) < _ - m; omega, (by repeat (first | exact keep_nil | refine keep_cons rfl ?_)), (by first | exact Sub.refl _ | exact Sub.drop (Sub.refl _) | exact Sub.keep (Sub.drop (Sub.refl _)))⟩ | exact ⟨(m + 1, f, xj.fin), ⟨by show m + 1 ≤ _; omega, e2_yes (f' := f) (t' := xj.fin) hxj ⟨by omega, by omega, by omega, by omega⟩ he (by omega) (by omega)⟩, by show _ - (m + 1) < _ - m; omega, (by repeat (first | exact keep_nil | refine keep_cons rfl ?_)), (by first | exact Sub.refl _ | exact Sub.drop (Sub.refl _) | exact Sub.keep (Sub.drop (Sub.refl _)))⟩ | exact ⟨(m + 1, f, t), ⟨by show m + 1 ≤ _; omega, e2_yes (f' := f) (t' := t) hxj ⟨by omega, by omega, by omega, by omega⟩ he (by omega) (by omega)⟩, by show _ - (m + 1) < _ - m; omega, (by repeat (first | exact keep_nil | refine keep_cons rfl ?_)), (by first | exact Sub.refl _ | exact Sub.drop (Sub.refl _) | exact Sub.keep (Sub.drop (Sub.refl _)))⟩ | exact ⟨(m + 1, _, _), ⟨by show m + 1 ≤ _; omega, e2_no hxj (by unfold okF; omega) he⟩, by show _ - (m + 1) < _ - m; omega, (by repeat (first | exact keep_nil | refine keep_cons rfl ?_)), (by first | exact Sub.refl _ | exact Sub.drop (Sub.refl _) | exact Sub.keep (Sub.drop (Sub.refl _)))⟩
              · refine sr_x rfl (wtd_none rfl) rfl (Rd.x (x_move rfl)) ?_
                refine sr_x rfl (wtd_yes rfl rfl rfl) rfl (Rd.x (x_fieldAddr fd28_6 rfl)) ?_
                refine sr_x rfl (wtd_yes rfl rfl rfl) rfl (Rd.x (x_load ag2 rfl (cells_ext (by repeat (first | exact List.mem_cons_self | apply List.mem_cons_of_mem)) (by repeat (first | exact Ext.all _ | exact Ext.done | apply Ext.take | apply Ext.skip))))) ?_
                refine sr_x rfl (wtd_yes rfl rfl rfl) rfl (Rd.x (x_move rfl)) ?_
                refine sr_cmp rfl (wtd_yes rfl rfl rfl) rfl (Rd.x (x_lt rfl rfl)) (fun h8 => ?_) (fun h8 => ?_)
                · refine sr_x rfl (wtd_none rfl) rfl (Rd.x (x_pick_f rfl rfl rfl)) ?_
                  refine sr_nil ?_
                  refine aw_keep (keep_cons (t := 0) rfl (keep_cons (t := 1) rfl (keep_cons (t := 4) rfl (keep_cons (t := 5) rfl (keep_cons (t := 6) rfl (keep_cons (t := 7) rfl (keep_cons (t := 8) rfl (keep_cons (t := 9) rfl (keep_cons (t := 10) rfl (keep_cons (t := 20) rfl (keep_cons (t := 21) rfl (keep_cons (t := 22) rfl (keep_cons (t := 23) rfl (keep_cons (t := 26) rfl (keep_cons (t := 27) rfl (keep_cons (t := 28) rfl (keep_cons (t := 29) rfl (keep_cons (t := 30) rfl (keep_cons (t := 31) rfl (keep_cons (t := 32) rfl (keep_cons (t := 33) rfl (keep_cons (t := 34) rfl (keep_cons (t := 35) rfl (keep_cons (t := 36) rfl (keep_cons (t := 37) rfl (keep_cons (t := 38) rfl (keep_cons (t := 39) rfl (keep_cons (t := 40) rfl (keep_cons (t := 41) rfl (keep_cons (t := 42) rfl (keep_cons (t := 43) rfl (keep_cons (t := 44) rfl (keep_cons (t := 45) rfl (keep_cons (t := 46) rfl (keep_cons (t := 47) rfl (keep_cons (t := 48) rfl (keep_cons (t := 49) rfl (keep_cons (t := 50) rfl (keep_cons (t := 51) rfl (keep_cons (t := 52) rfl (keep_cons (t := 53) rfl (keep_cons (t := 54) rfl (keep_cons (t := 55) rfl (keep_cons (t := 56) rfl (keep_cons (t := 57) rfl keep_nil))))))))))))))))))))))))))))))))))))))))))))) ?_
                  refine aw_true rfl ?_
                  refine aw_region ?_
                  refine sr_x rfl (wtd_none rfl) rfl (Rd.x (x_fieldAddr fd28_6 rfl)) ?_
                  refine sr_x rfl (wtd_none rfl) rfl (Rd.x (x_load ag2 rfl (cells_ext (by repeat (first | exact List.mem_cons_self | apply List.mem_cons_of_mem)) (by repeat (first | exact Ext.all _ | exact Ext.done | apply Ext.take | apply Ext.skip))))) ?_
                  refine sr_x rfl (wtd_none rfl) rfl (Rd.x (x_assign rfl)) ?_
                  refine sr_nil ?_
                  show AW _ _ _ _ _ _ _
                  refine aw_seq_region ?_
                  refine sr_x rfl (wtd_none rfl) rfl (Rd.x (x_fieldAddr fd28_7 rfl)) ?_
                  refine sr_x rfl (wtd_none rfl) rfl (Rd.x (x_load ag2 rfl (cells_ext (by repeat (first | exact List.mem_cons_self | apply List.mem_cons_of_mem)) (by repeat (first | exact Ext.all _ | exact Ext.done | apply Ext.take | apply Ext.skip))))) ?_
                  refine sr_x rfl (wtd_none rfl) rfl (Rd.x (x_move rfl)) ?_
                  refine sr_cmp rfl (wtd_none rfl) rfl (Rd.x (x_gt rfl rfl)) (fun h9 => ?_) (fun h9 => ?_)
                  · refine sr_nil ?_
                    refine aw_keep (keep_cons (t := 0) rfl (keep_cons (t := 1) rfl (keep_cons (t := 4) rfl (keep_cons (t := 5) rfl (keep_cons (t := 6) rfl (keep_cons (t := 7) rfl (keep_cons (t := 8) rfl (keep_cons (t := 9) rfl (keep_cons (t := 10) rfl (keep_cons (t := 20) rfl (keep_cons (t := 21) rfl (keep_cons (t := 22) rfl (keep_cons (t := 23) rfl (keep_cons (t := 26) rfl (keep_cons (t := 27) rfl (keep_cons (t := 28) rfl (keep_cons (t := 29) rfl (keep_cons (t := 30) rfl (keep_cons (t := 31) rfl (keep_cons (t := 32) rfl (keep_cons (t := 33) rfl (keep_cons (t := 34) rfl (keep_cons (t := 35) rfl (keep_cons (t := 36) rfl (keep_cons (t := 37) rfl (keep_cons (t := 38) rfl (keep_cons (t := 39) rfl (keep_cons (t := 40) rfl (keep_cons (t := 41) rfl (keep_cons (t := 42) rfl (keep_cons (t := 43) rfl (keep_cons (t := 44) rfl (keep_cons (t := 45) rfl (keep_cons (t := 46) rfl (keep_cons (t := 47) rfl (keep_cons (t := 48) rfl (keep_cons (t := 49) rfl (keep_cons (t := 50) rfl (keep_cons (t := 51) rfl (keep_cons (t := 52) rfl (keep_cons (t := 53) rfl (keep_cons (t := 54) rfl (keep_cons (t := 55) rfl (keep_cons (t := 56) rfl (keep_cons (t := 57) rfl (keep_cons (t := 58) rfl (keep_cons (t := 59) rfl (keep_cons (t := 60) rfl (keep_cons (t := 61) rfl (keep_cons (t := 62) rfl (keep_cons (t := 63) rfl keep_nil))))))))))))))))))))))))))))))))))))))))))))))))))) ?_
                    refine aw_true rfl ?_
                    refine aw_region ?_
                    refine sr_x rfl (wtd_none rfl) rfl (Rd.x (x_fieldAddr fd28_7 rfl)) ?_
                    refine sr_x rfl (wtd_none rfl) rfl (Rd.x (x_load ag2 rfl (cells_ext (by repeat (first | exact List.mem_cons_self | apply List.mem_cons_of_mem)) (by repeat (first | exact Ext.all _ | exact Ext.done | apply Ext.take | apply Ext.skip))))) ?_
                    refine sr_x rfl (wtd_none rfl) rfl (Rd.x (x_assign rfl)) ?_
                    refine sr_nil ?_
                    show AW _ _ _ _ _ _ _
                    refine aw_region ?_
                    refine sr_x rfl (wtd_none rfl) rfl (Rd.x (x_move rfl)) ?_
                    refine sr_x rfl (wtd_none rfl) rfl (Rd.x (x_add' rfl rfl (i64w (by omega) (by omega)))) ?_
                    refine sr_x rfl (wtd_none rfl) rfl (Rd.x (x_assign rfl)) ?_
                    refine sr_nil ?_
                    show ∃ s', _ ∧ _ ∧ _ ∧ _
                    first | exact ⟨(m + 1, xj.start, xj.fin), ⟨by show m + 1 ≤ _; omega, e2_yes (f' := xj.start) (t' := xj.fin) hxj ⟨by omega, by omega, by omega, by omega⟩ he (by omega) (by omega)⟩, by show _ - (m + 1) < _ - m; omega, (by repeat (first | exact keep_nil | refine keep_cons rfl ?_)), (by first | exact Sub.refl _ | exact Sub.drop (Sub.refl _) | exact Sub.keep (Sub.drop (Sub.refl _)))⟩ | exact ⟨(m + 1, xj.start, t), ⟨by show m + 1 ≤ _; omega, e2_yes (f' := xj.start) (t' := t) hxj ⟨by omega, by omega, by omega, by omega⟩ he (by omega) (by omega)⟩, by show _ - (m + 1) < _ - m; omega, (by repeat (first | exact keep_nil | refine keep_cons rfl ?_)), (by first | exact Sub.refl _ | exact Sub.drop (Sub.refl _) | exact Sub.keep (Sub.drop (Sub.refl _)))⟩ | exact ⟨(m + 1, f, xj.fin), ⟨by show m + 1 ≤ _; omega, e2_yes (f' := f) (t' := xj.fin) hxj ⟨by omega, by omega, by omega, by omega⟩ he (by omega) (by omega)⟩, by show _ - (m + 1) < _ - m; omega, (by repeat (first | exact keep_nil | refine keep_cons rfl ?_)), (by first | exact Sub.refl _ | exact Sub.drop (Sub.refl _) | exact Sub.keep (Sub.drop (Sub.refl _)))⟩ | exact ⟨(m + 1, f, t), ⟨by show m + 1 ≤ _; omega, e2_yes (f' := f) (t' := t) hxj ⟨by omega, by omega, by omega, by omega⟩ he (by omega) (by omega)⟩, by show _ - (m + 1) < _ - m; omega, (by repeat (first | exact keep_nil | refine keep_cons rfl ?_)), (by first | exact Sub.refl _ | exact Sub.drop (Sub.refl _) | exact Sub.keep (Sub.drop (Sub.refl _)))⟩ | exact ⟨(m + 1, _, _), ⟨by show m + 1 ≤ _; omega, e2_no hxj (by unfold okF; omega) he⟩, by show _ - (m + 1) < _ - m; omega, (by repeat (first | exact keep_nil | refine keep_cons rfl ?_)), (by first | exact Sub.refl _ | exact Sub.drop (Sub.refl _) | exact Sub.keep (Sub.drop (Sub.refl _)))⟩
                  · refine sr_nil ?_
                    refine aw_keep (keep_cons (t := 0) rfl (keep_cons (t := 1) rfl (keep_cons (t := 4) rfl (keep_cons (t := 5) rfl (keep_cons (t := 6) rfl (keep_cons (t := 7) rfl (keep_cons (t := 8) rfl (keep_cons (t := 9) rfl (keep_cons (t := 10) rfl (keep_cons (t := 20) rfl (keep_cons (t := 21) rfl (keep_cons (t := 22) rfl (keep_cons (t := 23) rfl (keep_cons (t := 26) rfl (keep_cons (t := 27) rfl (keep_cons (t := 28) rfl (keep_cons (t := 29) rfl (keep_cons (t := 30) rfl (keep_cons (t := 31) rfl (keep_cons (t := 32) rfl (keep_cons (t := 33) rfl (keep_cons (t := 34) rfl (keep_cons (t := 35) rfl (keep_cons (t := 36) rfl (keep_cons (t := 37) rfl (keep_cons (t := 38) rfl (keep_cons (t := 39) rfl (keep_cons (t := 40) rfl (keep_cons (t := 41) rfl (keep_cons (t := 42) rfl (keep_cons (t := 43) rfl (keep_cons (t := 44) rfl (keep_cons (t := 45) rfl (keep_cons (t := 46) rfl (keep_cons (t := 47) rfl (keep_cons (t := 48) rfl (keep_cons (t := 49) rfl (keep_cons (t := 50) rfl (keep_cons (t := 51) rfl (keep_cons (t := 52) rfl (keep_cons (t := 53) rfl (keep_cons (t := 54) rfl (keep_cons (t := 55) rfl (keep_cons (t := 56) rfl (keep_cons (t := 57) rfl (keep_cons (t := 58) rfl (keep_cons (t := 59) rfl (keep_cons (t := 60) rfl (keep_cons (t := 61) rfl (keep_cons (t := 62) rfl (keep_cons (t := 63) rfl keep_nil))))))))))))))))))))))))))))))))))))))))))))))))))) ?_
                    refine aw_false rfl ?_
                    refine aw_skip ?_
                    show AW _ _ _ _ _ _ _
                    refine aw_region ?_
                    refine sr_x rfl (wtd_none rfl) rfl (Rd.x (x_move rfl)) ?_
                    refine sr_x rfl (wtd_none rfl) rfl (Rd.x (x_add' rfl rfl (i64w (by omega) (by omega)))) ?_
                    refine sr_x rfl (wtd_none rfl) rfl (Rd.x (x_assign rfl)) ?_
                    refine sr_nil ?_
                    show ∃ s', _ ∧ _ ∧ _ ∧ _
                    first | exact ⟨(m + 1, xj.start, xj.fin), ⟨by show m + 1 ≤ _; omega, e2_yes (f' := xj.start) (t' := xj.fin) hxj ⟨by omega, by omega, by omega, by omega⟩ he (by omega) (by omega)⟩, by show _ - (m + 1) < _ - m; omega, (by repeat (first | exact keep_nil | refine keep_cons rfl ?_)), (by first | exact Sub.refl _ | exact Sub.drop (Sub.refl _) | exact Sub.keep (Sub.drop (Sub.refl _)))⟩ | exact ⟨(m + 1, xj.start, t), ⟨by show m + 1 ≤ _; omega, e2_yes (f' := xj.start) (t' := t) hxj ⟨by omega, by omega, by omega, by omega⟩ he (by omega) (by omega)⟩, by show _ - (m + 1) < _ - m; omega, (by repeat (first | exact keep_nil | refine keep_cons rfl ?_)), (by first | exact Sub.refl _ | exact Sub.drop (Sub.refl _) | exact Sub.keep (Sub.drop (Sub.refl _)))⟩ | exact ⟨(m + 1, f, xj.fin), ⟨by show m + 1 ≤ _; omega, e2_yes (f' := f) (t' := xj.fin) hxj ⟨by omega, by omega, by omega, by omega⟩ he (by omega) (by omega)⟩, by show _ - (m + 1) < _ - m; omega, (by repeat (first | exact keep_nil | refine keep_cons rfl ?_)), (by first | exact Sub.refl _ | exact Sub.drop (Sub.refl _) | exact Sub.keep (Sub.drop (Sub.refl _)))⟩ | exact ⟨(m + 1, f, t), ⟨by show m + 1 ≤ _; omega, e2_yes (f' := f) (t' := t) hxj ⟨by omega, by omega, by omega, by omega⟩ he (by omega) (by omega)⟩, by show _ - (m + 1) < _ - m; omega, (by repeat (first | exact keep_nil | refine keep_cons rfl ?_)), (by first | exact Sub.refl _ | exact Sub.drop (Sub.refl _) | exact Sub.keep (Sub.drop (Sub.refl _)))⟩ | exact ⟨(m + 1, _, _), ⟨by show m + 1 ≤ _; omega, e2_no hxj (by unfold okF; omega) he⟩, by show _ - (m + 1) < _ - m; omega, (by repeat (first | exact keep_nil | refine keep_cons rfl ?_)), (by first | exact Sub.refl _ | exact Sub.drop (Sub.refl _) | exact Sub.keep (Sub.drop (Sub.refl _)))⟩
                · refine sr_x rfl (wtd_none rfl) rfl (Rd.x (x_pick_f rfl rfl rfl)) ?_
                  refine sr_nil ?_
                  refine aw_keep (keep_cons (t := 0) rfl (keep_cons (t := 1) rfl (keep_cons (t := 4) rfl (keep_cons (t := 5) rfl (keep_cons (t := 6) rfl (keep_cons (t := 7) rfl (keep_cons (t := 8) rfl (keep_cons (t := 9) rfl (keep_cons (t := 10) rfl (keep_cons (t := 20) rfl (keep_cons (t := 21) rfl (keep_cons (t := 22) rfl (keep_cons (t := 23) rfl (keep_cons (t := 26) rfl (keep_cons (t := 27) rfl (keep_cons (t := 28) rfl (keep_cons (t := 29) rfl (keep_cons (t := 30) rfl (keep_cons (t := 31) rfl (keep_cons (t := 32) rfl (keep_cons (t := 33) rfl (keep_cons (t := 34) rfl (keep_cons (t := 35) rfl (keep_cons (t := 36) rfl (keep_cons (t := 37) rfl (keep_cons (t := 38) rfl (keep_cons (t := 39) rfl (keep_cons (t := 40) rfl (keep_cons (t := 41) rfl (keep_cons (t := 42) rfl (keep_cons (t := 43) rfl (keep_cons (t := 44) rfl (keep_cons (t := 45) rfl (keep_cons (t := 46) rfl (keep_cons (t := 47) rfl (keep_cons (t := 48) rfl (keep_cons (t := 49) rfl (keep_cons (t := 50) rfl (keep_cons (t := 51) rfl (keep_cons (t := 52) rfl (keep_cons (t := 53) rfl (keep_cons (t := 54) rfl (keep_cons (t := 55) rfl (keep_cons (t := 56) rfl (keep_cons (t := 57) rfl keep_nil))))))))))))))))))))))))))))))))))))))))))))) ?_
                  refine aw_false rfl ?_
                  refine aw_skip ?_
                  show AW _ _ _ _ _ _ _
                  refine aw_seq_region ?_
                  refine sr_x rfl (wtd_none rfl) rfl (Rd.x (x_fieldAddr fd28_7 rfl)) ?_
                  refine sr_x rfl (wtd_none rfl) rfl (Rd.x (x_load ag2 rfl (cells_ext (by repeat (first | exact List.mem_cons_self | apply List.mem_cons_of_mem)) (by repeat (first | exact Ext.all _ | exact Ext.done | apply Ext.take | apply Ext.skip))))) ?_
                  refine sr_x rfl (wtd_none rfl) rfl (Rd.x (x_move rfl)) ?_
                  refine sr_cmp rfl (wtd_none rfl) rfl (Rd.x (x_gt rfl rfl)) (fun h10 => ?_) (fun h10 => ?_)
                  · refine sr_nil ?_
                    refine aw_keep (keep_cons (t := 0) rfl (keep_cons (t := 1) rfl (keep_cons (t := 4) rfl (keep_cons (t := 5) rfl (keep_cons (t := 6) rfl (keep_cons (t := 7) rfl (keep_cons (t := 8) rfl (keep_cons (t := 9) rfl (keep_cons (t := 10) rfl (keep_cons (t := 20) rfl (keep_cons (t := 21) rfl (keep_cons (t := 22) rfl (keep_cons (t := 23) rfl (keep_cons (t := 26) rfl (keep_cons (t := 27) rfl (keep_cons (t := 28) rfl (keep_cons (t := 29) rfl (keep_cons (t := 30) rfl (keep_cons (t := 31) rfl (keep_cons (t := 32) rfl (keep_cons (t := 33) rfl (keep_cons (t := 34) rfl (keep_cons (t := 35) rfl (keep_cons (t := 36) rfl (keep_cons (t := 37) rfl (keep_cons (t := 38) rfl (keep_cons (t := 39) rfl (keep_cons (t := 40) rfl (keep_cons (t := 41) rfl (keep_cons (t := 42) rfl (keep_cons (t := 43) rfl (keep_cons (t := 44) rfl (keep_cons (t := 45) rfl (keep_cons (t := 46) rfl (keep_cons (t := 47) rfl (keep_cons (t := 48) rfl (keep_cons (t := 49) rfl (keep_cons (t := 50) rfl (keep_cons (t := 51) rfl (keep_cons (t := 52) rfl (keep_cons (t := 53) rfl (keep_cons (t := 54) rfl (keep_cons (t := 55) rfl (keep_cons (t := 56) rfl (keep_cons (t := 57) rfl (keep_cons (t := 60) rfl (keep_cons (t := 61) rfl (keep_cons (t := 62) rfl (keep_cons (t := 63) rfl keep_nil))))))))))))))))))))))))))))))))))))))))))))))))) ?_
                    refine aw_true rfl ?_
                    refine aw_region ?_
                    refine sr_x rfl (wtd_none rfl) rfl (Rd.x (x_fieldAddr fd28_7 rfl)) ?_
                    refine sr_x rfl (wtd_none rfl) rfl (Rd.x (x_load ag2 rfl (cells_ext (by repeat (first | exact List.mem_cons_self | apply List.mem_cons_of_mem)) (by repeat (first | exact Ext.all _ | exact Ext.done | apply Ext.take | apply Ext.skip))))) ?_
                    refine sr_x rfl (wtd_none rfl) rfl (Rd.x (x_assign rfl)) ?_
                    refine sr_nil ?_
                    show AW _ _ _ _ _ _ _
                    refine aw_region ?_
                    refine sr_x rfl (wtd_none rfl) rfl (Rd.x (x_move rfl)) ?_
                    refine sr_x rfl (wtd_none rfl) rfl (Rd.x (x_add' rfl rfl (i64w (by omega) (by omega)))) ?_
                    refine sr_x rfl (wtd_none rfl) rfl (Rd.x (x_assign rfl)) ?_
                    refine sr_nil ?_
                    show ∃ s', _ ∧ _ ∧ _ ∧ _
                    first | exact ⟨(m + 1, xj.start, xj.fin), ⟨by show m + 1 ≤ _; omega, e2_yes (f' := xj.start) (t' := xj.fin) hxj ⟨by omega, by omega, by omega, by omega⟩ he (by omega) (by omega)⟩, by show _ - (m + 1) < _ - m; omega, (by repeat (first | exact keep_nil | refine keep_cons rfl ?_)), (by first | exact Sub.refl _ | exact Sub.drop (Sub.refl _) | exact Sub.keep (Sub.drop (Sub.refl _)))⟩ | exact ⟨(m + 1, xj.start, t), ⟨by show m + 1 ≤ _; omega, e2_yes (f' := xj.start) (t' := t) hxj ⟨by omega, by omega, by omega, by omega⟩ he (by omega) (by omega)⟩, by show _ - (m + 1) < _ - m; omega, (by repeat (first | exact keep_nil | refine keep_cons rfl ?_)), (by first | exact Sub.refl _ | exact Sub.drop (Sub.refl _) | exact Sub.keep (Sub.drop (Sub.refl _)))⟩ | exact ⟨(m + 1, f, xj.fin), ⟨by show m + 1 ≤ _; omega, e2_yes (f' := f) (t' := xj.fin) hxj ⟨by omega, by omega, by omega, by omega⟩ he (by omega) (by omega)⟩, by show _ - (m + 1) < _ - m; omega, (by repeat (first | exact keep_nil | refine keep_cons rfl ?_)), (by first | exact Sub.refl _ | exact Sub.drop (Sub.refl _) | exact Sub.keep (Sub.drop (Sub.refl _)))⟩ | exact ⟨(m + 1, f, t), ⟨by show m + 1 ≤ _; omega, e2_yes (f' := f) (t' := t) hxj ⟨by omega, by omega, by omega, by omega⟩ he (by omega) (by omega)⟩, by show _ - (m + 1) < _ - m; omega, (by repeat (first | exact keep_nil | refine keep_cons rfl ?_)), (by first | exact Sub.refl _ | exact Sub.drop (Sub.refl _) | exact Sub.keep (Sub.drop (Sub.refl _)))⟩ | exact ⟨(m + 1, _, _), ⟨by show m + 1 ≤ _; omega, e2_no hxj (by unfold okF; omega) he⟩, by show _ - (m + 1) < _ - m; omega, (by repeat (first | exact keep_nil | refine keep_cons rfl ?_)), (by first | exact Sub.refl _ | exact Sub.drop (Sub.refl _) | exact Sub.keep (Sub.drop (Sub.refl _)))⟩
                  · refine sr_nil ?_
                    refine aw_keep (keep_cons (t := 0) rfl (keep_cons (t := 1) rfl (keep_cons (t := 4) rfl (keep_cons (t := 5) rfl (keep_cons (t := 6) rfl (keep_cons (t := 7) rfl (keep_cons (t := 8) rfl (keep_cons (t := 9) rfl (keep_cons (t := 10) rfl (keep_cons (t := 20) rfl (keep_cons (t := 21) rfl (keep_cons (t := 22) rfl (keep_cons (t := 23) rfl (keep_cons (t := 26) rfl (keep_cons (t := 27) rfl (keep_cons (t := 28) rfl (keep_cons (t := 29) rfl (keep_cons (t := 30) rfl (keep_cons (t := 31) rfl (keep_cons (t := 32) rfl (keep_cons (t := 33) rfl (keep_cons (t := 34) rfl (keep_cons (t := 35) rfl (keep_cons (t := 36) rfl (keep_cons (t := 37) rfl (keep_cons (t := 38) rfl (keep_cons (t := 39) rfl (keep_cons (t := 40) rfl (keep_cons (t := 41) rfl (keep_cons (t := 42) rfl (keep_cons (t := 43) rfl (keep_cons (t := 44) rfl (keep_cons (t := 45) rfl (keep_cons (t := 46) rfl (keep_cons (t := 47) rfl (keep_cons (t := 48) rfl (keep_cons (t := 49) rfl (keep_cons (t := 50) rfl (keep_cons (t := 51) rfl (keep_cons (t := 52) rfl (keep_cons (t := 53) rfl (keep_cons (t := 54) rfl (keep_cons (t := 55) rfl (keep_cons (t := 56) rfl (keep_cons (t := 57) rfl (keep_cons (t := 60) rfl (keep_cons (t := 61) rfl (keep_cons (t := 62) rfl (keep_cons (t := 63) rfl keep_nil))))))))))))))))))))))))))))))))))))))))))))))))) ?_
                    refine aw_false rfl ?_
                    refine aw_skip ?_
                    show AW _ _ _ _ _ _ _
                    refine aw_region ?_
                    refine sr_x rfl (wtd_none rfl) rfl (Rd.x (x_move rfl)) ?_
                    refine sr_x rfl (wtd_none rfl) rfl (Rd.x (x_add' rfl rfl (i64w (by omega) (by omega)))) ?_
                    refine sr_x rfl (wtd_none rfl) rfl (Rd.x (x_assign rfl)) ?_
                    refine sr_nil ?_
                    show ∃ s', _ ∧ _ ∧ _ ∧ _
                    first | exact ⟨(m + 1, xj.start, xj.fin), ⟨by show m + 1 ≤ _; omega, e2_yes (f' := xj.start) (t' := xj.fin) hxj ⟨by omega, by omega, by omega, by omega⟩ he (by omega) (by omega)⟩, by show _ - (m + 1) < _ - m; omega, (by repeat (first | exact keep_nil | refine keep_cons rfl ?_)), (by first | exact Sub.refl _ | exact Sub.drop (Sub.refl _) | exact Sub.keep (Sub.drop (Sub.refl _)))⟩ | exact ⟨(m + 1, xj.start, t), ⟨by show m + 1 ≤ _; omega, e2_yes (f' := xj.start) (t' := t) hxj ⟨by omega, by omega, by omega, by omega⟩ he (by omega) (by omega)⟩, by show _ - (m + 1) < _ - m; omega, (by repeat (first | exact keep_nil | refine keep_cons rfl ?_)), (by first | exact Sub.refl _ | exact Sub.drop (Sub.refl _) | exact Sub.keep (Sub.drop (Sub.refl _)))⟩ | exact ⟨(m + 1, f, xj.fin), ⟨by show m + 1 ≤ _; omega, e2_yes (f' := f) (t' := xj.fin) hxj ⟨by omega, by omega, by omega, by omega⟩ he (by omega) (by omega)⟩, by show _ - (m + 1) < _ - m; omega, (by repeat (first | exact keep_nil | refine keep_cons rfl ?_)), (by first | exact Sub.refl _ | exact Sub.drop (Sub.refl _) | exact Sub.keep (Sub.drop (Sub.refl _)))⟩ | exact ⟨(m + 1, f, t), ⟨by show m + 1 ≤ _; omega, e2_yes (f' := f) (t' := t) hxj ⟨by omega, by omega, by omega, by omega⟩ he (by omega) (by omega)⟩, by show _ - (m + 1) < _ - m; omega, (by repeat (first | exact keep_nil | refine keep_cons rfl ?_)), (by first | exact Sub.refl _ | exact Sub.drop (Sub.refl _) | exact Sub.keep (Sub.drop (Sub.refl _)))⟩ | exact ⟨(m + 1, _, _), ⟨by show m + 1 ≤ _; omega, e2_no hxj (by unfold okF; omega) he⟩, by show _ - (m + 1) < _ - m; omega, (by repeat (first | exact keep_nil | refine keep_cons rfl ?_)), (by first | exact Sub.refl _ | exact Sub.drop (Sub.refl _) | exact Sub.keep (Sub.drop (Sub.refl _)))⟩
    · refine sr_nil ?_
      refine aw_keep (keep_cons (t := 0) rfl (keep_cons (t := 1) rfl (keep_cons (t := 4) rfl (keep_cons (t := 5) rfl (keep_cons (t := 6) rfl (keep_cons (t := 7) rfl (keep_cons (t := 8) rfl (keep_cons (t := 9) rfl (keep_cons (t := 20) rfl (keep_cons (t := 21) rfl (keep_cons (t := 22) rfl (keep_cons (t := 23) rfl keep_nil)))))))))))) ?_
      refine aw_false rfl ?_
      refine aw_exit ?_
      show AW _ _ _ _ _ _ _
      refine aw_seq ?_
      refine aw_seq_region ?_
      have em : m = (xs.take 20).length := by omega
      rw [em] at he
      have hz := e2_law he
      first | (have hz2 : f = f0 ∧ t = t0 := by (rw [ho] at hz; rcases hz with ⟨hz, _⟩ | ⟨a', b', hz, rfl, rfl⟩ <;> cases hz; exact ⟨rfl, rfl⟩)) | (have hz2 : n < 1 ∨ 120 < n ∨ f < 0 := by (rcases hbad with h | h | h; exact .inl h; exact .inr (.inl h); rw [h] at hz; rcases hz with ⟨_, hz⟩ | ⟨a', b', hz, _⟩; (exact .inr (.inr (by omega))); cases hz))
      refine sr_x rfl (wtd_none rfl) rfl (Rd.x (x_move rfl)) ?_
      refine sr_cmp rfl (wtd_none rfl) rfl (Rd.x (x_lt rfl rfl)) (fun h11 => ?_) (fun h11 => ?_)
      · refine sr_x rfl (wtd_none rfl) rfl (Rd.x (x_move rfl)) ?_
        refine sr_skip rfl (wtd_no rfl rfl rfl rfl) rfl ?_
        refine sr_skip rfl (wtd_no rfl rfl rfl rfl) rfl ?_
        refine sr_x rfl (wtd_none rfl) rfl (Rd.x (x_pick_t rfl rfl rfl)) ?_
        refine sr_x rfl (wtd_none rfl) rfl (Rd.x (x_move rfl)) ?_
        refine sr_skip rfl (wtd_no rfl rfl rfl rfl) rfl ?_
        refine sr_skip rfl (wtd_no rfl rfl rfl rfl) rfl ?_
        refine sr_x rfl (wtd_none rfl) rfl (Rd.x (x_pick_t rfl rfl rfl)) ?_
        refine sr_nil ?_
        refine aw_keep (keep_cons (t := 0) rfl (keep_cons (t := 4) rfl (keep_cons (t := 5) rfl (keep_cons (t := 6) rfl (keep_cons (t := 7) rfl (keep_cons (t := 8) rfl (keep_cons (t := 75) rfl keep_nil))))))) ?_
        refine aw_true rfl ?_
        refine aw_seq_region ?_
        refine sr_x rfl (wtd_none rfl) rfl (Rd.x (x_loadN ag36 sz36 rfl (cells_ext (by repeat (first | exact List.mem_cons_self | apply List.mem_cons_of_mem)) (by repeat (first | exact Ext.all _ | exact Ext.done | apply Ext.take | apply Ext.skip))) rfl)) ?_
        refine sr_x rfl (wtd_none rfl) rfl (Rd.x (x_build zr36 rfl fl36 (by repeat (first | exact Parts.nil | (apply Parts.cons; rfl))) (by repeat (first | exact Fill.done | (apply Fill.part; rfl; rfl; rfl; focus (repeat (first | exact Spl.done | exact Spl.all rfl | apply Spl.put | apply Spl.skip))))))) ?_
        refine sr_cmp rfl (wtd_none rfl) rfl (Rd.x (x_eqStruct Try.underlying36 ks36 rfl rfl rfl rfl rfl)) (fun h12 => ?_) (fun h12 => ?_)
        · refine sr_x rfl (wtd_none rfl) rfl (Rd.x (x_move rfl)) ?_
          refine sr_x rfl (wtd_yes rfl rfl rfl) rfl (Rd.x (x_move rfl)) ?_
          refine sr_x rfl (wtd_yes rfl rfl rfl) rfl (Rd.x (x_not rfl)) ?_
          refine sr_x rfl (wtd_none rfl) rfl (Rd.x (x_pick_t rfl rfl rfl)) ?_
          refine sr_x rfl (wtd_none rfl) rfl (Rd.x (x_move rfl)) ?_
          refine sr_d rfl (wtd_yes rfl rfl rfl) rfl (opS_call rfl rfl rfl rfl cl16 (awake30_s _)) ?_
          rintro _ _ ⟨rfl, rfl⟩
          refine sr_x rfl (wtd_none rfl) rfl (Rd.x (x_pick_t rfl rfl rfl)) ?_
          refine sr_x rfl (wtd_none rfl) rfl (Rd.x (x_assign rfl)) ?_
          refine sr_nil ?_
          refine aw_keep (keep_cons (t := 0) rfl (keep_cons (t := 4) rfl (keep_cons (t := 5) rfl (keep_cons (t := 6) rfl (keep_cons (t := 7) rfl (keep_cons (t := 8) rfl keep_nil)))))) ?_
          refine aw_ret ?_
          show ∃ v H2, ResV _ _ _ _ _ _ v ∧ Sub H2 _ ∧ _
          exact ⟨_, _, resV rfl (.cons rfl .nil), (by repeat (first | exact Sub.refl _ | apply Sub.drop)), (by first | rfl | (exfalso; omega) | (exfalso; have hr2 := mt hr.2 (by simp); unfold Chart.Right at hr2; omega) | (exfalso; simp_all [eqC, sEq]; done))⟩
        · refine sr_x rfl (wtd_none rfl) rfl (Rd.x (x_move rfl)) ?_
          refine sr_skip rfl (wtd_no rfl rfl rfl rfl) rfl ?_
          refine sr_skip rfl (wtd_no rfl rfl rfl rfl) rfl ?_
          refine sr_x rfl (wtd_none rfl) rfl (Rd.x (x_pick_f rfl rfl rfl)) ?_
          refine sr_x rfl (wtd_none rfl) rfl (Rd.x (x_move rfl)) ?_
          refine sr_skip rfl (wtd_no rfl rfl rfl rfl) rfl ?_
          refine sr_x rfl (wtd_none rfl) rfl (Rd.x (x_pick_f rfl rfl rfl)) ?_
          refine sr_x rfl (wtd_none rfl) rfl (Rd.x (x_assign rfl)) ?_
          refine sr_nil ?_
          refine aw_keep (keep_cons (t := 0) rfl (keep_cons (t := 4) rfl (keep_cons (t := 5) rfl (keep_cons (t := 6) rfl (keep_cons (t := 7) rfl (keep_cons (t := 8) rfl keep_nil)))))) ?_
          refine aw_ret ?_
          show ∃ v H2, ResV _ _ _ _ _ _ v ∧ Sub H2 _ ∧ _
          exact ⟨_, _, resV rfl (.cons rfl .nil), (by repeat (first | exact Sub.refl _ | apply Sub.drop)), (by first | rfl | (exfalso; omega) | (exfalso; have hr2 := mt hr.2 (by simp); unfold Chart.Right at hr2; omega) | (exfalso; simp_all [eqC, sEq]; done))⟩
      · refine sr_x rfl (wtd_none rfl) rfl (Rd.x (x_move rfl)) ?_
        refine sr_x rfl (wtd_yes rfl rfl rfl) rfl (Rd.x (x_move rfl)) ?_
        refine sr_cmp rfl (wtd_yes rfl rfl rfl) rfl (Rd.x (x_gt rfl rfl)) (fun h13 => ?_) (fun h13 => ?_)
        · refine sr_x rfl (wtd_none rfl) rfl (Rd.x (x_pick_f rfl rfl rfl)) ?_
          refine sr_x rfl (wtd_none rfl) rfl (Rd.x (x_move rfl)) ?_
          refine sr_skip rfl (wtd_no rfl rfl rfl rfl) rfl ?_
          refine sr_skip rfl (wtd_no rfl rfl rfl rfl) rfl ?_
          refine sr_x rfl (wtd_none rfl) rfl (Rd.x (x_pick_t rfl rfl rfl)) ?_
          refine sr_nil ?_
          refine aw_keep (keep_cons (t := 0) rfl (keep_cons (t := 4) rfl (keep_cons (t := 5) rfl (keep_cons (t := 6) rfl (keep_cons (t := 7) rfl (keep_cons (t := 8) rfl (keep_cons (t := 75) rfl keep_nil))))))) ?_
          refine aw_true rfl ?_
          refine aw_seq_region ?_
          refine sr_x rfl (wtd_none rfl) rfl (Rd.x (x_loadN ag36 sz36 rfl (cells_ext (by repeat (first | exact List.mem_cons_self | apply List.mem_cons_of_mem)) (by repeat (first | exact Ext.all _ | exact Ext.done | apply Ext.take | apply Ext.skip))) rfl)) ?_
          refine sr_x rfl (wtd_none rfl) rfl (Rd.x (x_build zr36 rfl fl36 (by repeat (first | exact Parts.nil | (apply Parts.cons; rfl))) (by repeat (first | exact Fill.done | (apply Fill.part; rfl; rfl; rfl; focus (repeat (first | exact Spl.done | exact Spl.all rfl | apply Spl.put | apply Spl.skip))))))) ?_
          refine sr_cmp rfl (wtd_none rfl) rfl (Rd.x (x_eqStruct Try.underlying36 ks36 rfl rfl rfl rfl rfl)) (fun h14 => ?_) (fun h14 => ?_)
          · refine sr_x rfl (wtd_none rfl) rfl (Rd.x (x_move rfl)) ?_
            refine sr_x rfl (wtd_yes rfl rfl rfl) rfl (Rd.x (x_move rfl)) ?_
            refine sr_x rfl (wtd_yes rfl rfl rfl) rfl (Rd.x (x_not rfl)) ?_
            refine sr_x rfl (wtd_none rfl) rfl (Rd.x (x_pick_t rfl rfl rfl)) ?_
            refine sr_x rfl (wtd_none rfl) rfl (Rd.x (x_move rfl)) ?_
            refine sr_d rfl (wtd_yes rfl rfl rfl) rfl (opS_call rfl rfl rfl rfl cl16 (awake30_s _)) ?_
            rintro _ _ ⟨rfl, rfl⟩
            refine sr_x rfl (wtd_none rfl) rfl (Rd.x (x_pick_t rfl rfl rfl)) ?_
            refine sr_x rfl (wtd_none rfl) rfl (Rd.x (x_assign rfl)) ?_
            refine sr_nil ?_
            refine aw_keep (keep_cons (t := 0) rfl (keep_cons (t := 4) rfl (keep_cons (t := 5) rfl (keep_cons (t := 6) rfl (keep_cons (t := 7) rfl (keep_cons (t := 8) rfl keep_nil)))))) ?_
            refine aw_ret ?_
            show ∃ v H2, ResV _ _ _ _ _ _ v ∧ Sub H2 _ ∧ _
            exact ⟨_, _, resV rfl (.cons rfl .nil), (by repeat (first | exact Sub.refl _ | apply Sub.drop)), (by first | rfl | (exfalso; omega) | (exfalso; have hr2 := mt hr.2 (by simp); unfold Chart.Right at hr2; omega) | (exfalso; simp_all [eqC, sEq]; done))⟩
          · refine sr_x rfl (wtd_none rfl) rfl (Rd.x (x_move rfl)) ?_
            refine sr_skip rfl (wtd_no rfl rfl rfl rfl) rfl ?_
            refine sr_skip rfl (wtd_no rfl rfl rfl rfl) rfl ?_
            refine sr_x rfl (wtd_none rfl) rfl (Rd.x (x_pick_f rfl rfl rfl)) ?_
            refine sr_x rfl (wtd_none rfl) rfl (Rd.x (x_move rfl)) ?_
            refine sr_skip rfl (wtd_no rfl rfl rfl rfl) rfl ?_
            refine sr_x rfl (wtd_none rfl) rfl (Rd.x (x_pick_f rfl rfl rfl)) ?_
            refine sr_x rfl (wtd_none rfl) rfl (Rd.x (x_assign rfl)) ?_
            refine sr_nil ?_
            refine aw_keep (keep_cons (t := 0) rfl (keep_cons (t := 4) rfl (keep_cons (t := 5) rfl (keep_cons (t := 6) rfl (keep_cons (t := 7) rfl (keep_cons (t := 8) rfl keep_nil)))))) ?_
            refine aw_ret ?_
            show ∃ v H2, ResV _ _ _ _ _ _ v ∧ Sub H2 _ ∧ _
            exact ⟨_, _, resV rfl (.cons rfl .nil), (by repeat (first | exact Sub.refl _ | apply Sub.drop)), (by first | rfl | (exfalso; omega) | (exfalso; have hr2 := mt hr.2 (by simp); unfold Chart.Right at hr2; omega) | (exfalso; simp_all [eqC, sEq]; done))⟩
        · refine sr_x rfl (wtd_none rfl) rfl (Rd.x (x_pick_f rfl rfl rfl)) ?_
          refine sr_x rfl (wtd_none rfl) rfl (Rd.x (x_move rfl)) ?_
          refine sr_x rfl (wtd_yes rfl rfl rfl) rfl (Rd.x (x_move rfl)) ?_
          refine sr_cmp rfl (wtd_yes rfl rfl rfl) rfl (Rd.x (x_lt rfl rfl)) (fun h15 => ?_) (fun h15 => ?_)
          · refine sr_x rfl (wtd_none rfl) rfl (Rd.x (x_pick_f rfl rfl rfl)) ?_
            refine sr_nil ?_
            refine aw_keep (keep_cons (t := 0) rfl (keep_cons (t := 4) rfl (keep_cons (t := 5) rfl (keep_cons (t := 6) rfl (keep_cons (t := 7) rfl (keep_cons (t := 8) rfl (keep_cons (t := 75) rfl keep_nil))))))) ?_
            refine aw_true rfl ?_
            refine aw_seq_region ?_
            refine sr_x rfl (wtd_none rfl) rfl (Rd.x (x_loadN ag36 sz36 rfl (cells_ext (by repeat (first | exact List.mem_cons_self | apply List.mem_cons_of_mem)) (by repeat (first | exact Ext.all _ | exact Ext.done | apply Ext.take | apply Ext.skip))) rfl)) ?_
            refine sr_x rfl (wtd_none rfl) rfl (Rd.x (x_build zr36 rfl fl36 (by repeat (first | exact Parts.nil | (apply Parts.cons; rfl))) (by repeat (first | exact Fill.done | (apply Fill.part; rfl; rfl; rfl; focus (repeat (first | exact Spl.done | exact Spl.all rfl | apply Spl.put | apply Spl.skip))))))) ?_
            refine sr_cmp rfl (wtd_none rfl) rfl (Rd.x (x_eqStruct Try.underlying36 ks36 rfl rfl rfl rfl rfl)) (fun h16 => ?_) (fun h16 => ?_)
            · refine sr_x rfl (wtd_none rfl) rfl (Rd.x (x_move rfl)) ?_
              refine sr_x rfl (wtd_yes rfl rfl rfl) rfl (Rd.x (x_move rfl)) ?_
              refine sr_x rfl (wtd_yes rfl rfl rfl) rfl (Rd.x (x_not rfl)) ?_
              refine sr_x rfl (wtd_none rfl) rfl (Rd.x (x_pick_t rfl rfl rfl)) ?_
              refine sr_x rfl (wtd_none rfl) rfl (Rd.x (x_move rfl)) ?_
              refine sr_d rfl (wtd_yes rfl rfl rfl) rfl (opS_call rfl rfl rfl rfl cl16 (awake30_s _)) ?_
              rintro _ _ ⟨rfl, rfl⟩
              refine sr_x rfl (wtd_none rfl) rfl (Rd.x (x_pick_t rfl rfl rfl)) ?_
              refine sr_x rfl (wtd_none rfl) rfl (Rd.x (x_assign rfl)) ?_
              refine sr_nil ?_
              refine aw_keep (keep_cons (t := 0) rfl (keep_cons (t := 4) rfl (keep_cons (t := 5) rfl (keep_cons (t := 6) rfl (keep_cons (t := 7) rfl (keep_cons (t := 8) rfl keep_nil)))))) ?_
              refine aw_ret ?_
              show ∃ v H2, ResV _ _ _ _ _ _ v ∧ Sub H2 _ ∧ _
              exact ⟨_, _, resV rfl (.cons rfl .nil), (by repeat (first | exact Sub.refl _ | apply Sub.drop)), (by first | rfl | (exfalso; omega) | (exfalso; have hr2 := mt hr.2 (by simp); unfold Chart.Right at hr2; omega) | (exfalso; simp_all [eqC, sEq]; done))⟩
            · refine sr_x rfl (wtd_none rfl) rfl (Rd.x (x_move rfl)) ?_
              refine sr_skip rfl (wtd_no rfl rfl rfl rfl) rfl ?_
              refine sr_skip rfl (wtd_no rfl rfl rfl rfl) rfl ?_
              refine sr_x rfl (wtd_none rfl) rfl (Rd.x (x_pick_f rfl rfl rfl)) ?_
              refine sr_x rfl (wtd_none rfl) rfl (Rd.x (x_move rfl)) ?_
              refine sr_skip rfl (wtd_no rfl rfl rfl rfl) rfl ?_
              refine sr_x rfl (wtd_none rfl) rfl (Rd.x (x_pick_f rfl rfl rfl)) ?_
              refine sr_x rfl (wtd_none rfl) rfl (Rd.x (x_assign rfl)) ?_
              refine sr_nil ?_
              refine aw_keep (keep_cons (t := 0) rfl (keep_cons (t := 4) rfl (keep_cons (t := 5) rfl (keep_cons (t := 6) rfl (keep_cons (t := 7) rfl (keep_cons (t := 8) rfl keep_nil)))))) ?_
              refine aw_ret ?_
              show ∃ v H2, ResV _ _ _ _ _ _ v ∧ Sub H2 _ ∧ _
              exact ⟨_, _, resV rfl (.cons rfl .nil), (by repeat (first | exact Sub.refl _ | apply Sub.drop)), (by first | rfl | (exfalso; omega) | (exfalso; have hr2 := mt hr.2 (by simp); unfold Chart.Right at hr2; omega) | (exfalso; simp_all [eqC, sEq]; done))⟩
          · refine sr_x rfl (wtd_none rfl) rfl (Rd.x (x_pick_f rfl rfl rfl)) ?_
            refine sr_nil ?_
            refine aw_keep (keep_cons (t := 0) rfl (keep_cons (t := 4) rfl (keep_cons (t := 5) rfl (keep_cons (t := 6) rfl (keep_cons (t := 7) rfl (keep_cons (t := 8) rfl (keep_cons (t := 75) rfl keep_nil))))))) ?_
            refine aw_false rfl ?_
            refine aw_skip ?_
            show AW _ _ _ _ _ _ _
            refine aw_seq ?_
            refine aw_seq_region ?_
            refine sr_x rfl (wtd_none rfl) rfl (Rd.x (x_move rfl)) ?_
            refine sr_x rfl (wtd_none rfl) rfl (Rd.x (x_not rfl)) ?_
            refine sr_x rfl (wtd_none rfl) rfl (Rd.x (x_move rfl)) ?_
            refine sr_skip rfl (wtd_no rfl rfl rfl rfl) rfl ?_
            refine sr_skip rfl (wtd_no rfl rfl rfl rfl) rfl ?_
            refine sr_skip rfl (wtd_no rfl rfl rfl rfl) rfl ?_
            refine sr_skip rfl (wtd_no rfl rfl rfl rfl) rfl ?_
            refine sr_x rfl (wtd_none rfl) rfl (Rd.x (x_pick_t rfl rfl rfl)) ?_
            refine sr_x rfl (wtd_none rfl) rfl (Rd.x (x_move rfl)) ?_
            refine sr_skip rfl (wtd_no rfl rfl rfl rfl) rfl ?_
            refine sr_skip rfl (wtd_no rfl rfl rfl rfl) rfl ?_
            refine sr_skip rfl (wtd_no rfl rfl rfl rfl) rfl ?_
            refine sr_skip rfl (wtd_no rfl rfl rfl rfl) rfl ?_
            refine sr_x rfl (wtd_none rfl) rfl (Rd.x (x_pick_t rfl rfl rfl)) ?_
            refine sr_x rfl (wtd_none rfl) rfl (Rd.x (x_move rfl)) ?_
            refine sr_skip rfl (wtd_no rfl rfl rfl rfl) rfl ?_
            refine sr_skip rfl (wtd_no rfl rfl rfl rfl) rfl ?_
            refine sr_skip rfl (wtd_no rfl rfl rfl rfl) rfl ?_
            refine sr_x rfl (wtd_none rfl) rfl (Rd.x (x_pick_t rfl rfl rfl)) ?_
            refine sr_nil ?_
            refine aw_keep (keep_cons (t := 0) rfl (keep_cons (t := 4) rfl (keep_cons (t := 5) rfl (keep_cons (t := 7) rfl (keep_cons (t := 8) rfl (keep_cons (t := 104) rfl keep_nil)))))) ?_
            refine aw_true rfl ?_
            refine aw_seq_region ?_
            refine sr_x rfl (wtd_none rfl) rfl (Rd.x (x_assign rfl)) ?_
            refine sr_nil ?_
            refine aw_keep (keep_cons (t := 0) rfl (keep_cons (t := 4) rfl (keep_cons (t := 5) rfl (keep_cons (t := 7) rfl (keep_cons (t := 8) rfl keep_nil))))) ?_
            refine aw_ret ?_
            show ∃ v H2, ResV _ _ _ _ _ _ v ∧ Sub H2 _ ∧ _
            exact ⟨_, _, resV rfl (.cons rfl .nil), (by repeat (first | exact Sub.refl _ | apply Sub.drop)), (by first | rfl | (exfalso; omega) | (exfalso; have hr2 := mt hr.2 (by simp); unfold Chart.Right at hr2; omega) | (exfalso; simp_all [eqC, sEq]; done))⟩
  · first | (obtain ⟨f0, t0, ho, q1, q2, q3, q4, q5, q6, qa, qb, q7, q8, q9, q10, q11, q12, q13⟩ := hk1 rfl) | (obtain ⟨qa, qb, qc, hbad⟩ := hk2 rfl)
    refine sr_x rfl (wtd_none rfl) rfl (Rd.x (x_move rfl)) ?_
    refine sr_x rfl (wtd_none rfl) rfl (Rd.x (x_extract rfl rfl)) ?_
    refine sr_x rfl (wtd_none rfl) rfl (Rd.x (x_extract rfl rfl)) ?_
    refine sr_new rfl (wtd_none rfl) rfl (x_alloc zr36 rfl) ?_
    intro r2_6 hr2_6 gr2_6
    refine sr_x0 rfl (wtd_none rfl) (x_store sz36 rfl rfl rfl rfl rfl (by repeat (first | exact Repl.here | apply Repl.there)) (by repeat (first | exact Spl.done | exact Spl.all rfl | apply Spl.put | apply Spl.skip))) ?_
    refine sr_x rfl (wtd_none rfl) rfl (Rd.x (x_assign rfl)) ?_
    refine sr_nil ?_
    refine aw_keep (keep_cons (t := 0) rfl (keep_cons (t := 1) rfl (keep_cons (t := 4) rfl (keep_cons (t := 5) rfl (keep_cons (t := 6) rfl keep_nil))))) ?_
    refine aw_seq_region ?_
    refine sr_x rfl (wtd_none rfl) rfl (Rd.x (x_assign rfl)) ?_
    refine sr_x rfl (wtd_none rfl) rfl (Rd.x (x_assign rfl)) ?_
    refine sr_nil ?_
    refine aw_keep (keep_cons (t := 0) rfl (keep_cons (t := 1) rfl (keep_cons (t := 4) rfl (keep_cons (t := 5) rfl (keep_cons (t := 6) rfl (keep_cons (t := 7) rfl (keep_cons (t := 8) rfl keep_nil))))))) ?_
    refine aw_seq ?_
    refine aw_seq_region ?_
    refine sr_x rfl (wtd_none rfl) rfl (Rd.x (x_assign rfl)) ?_
    refine sr_nil ?_
    refine aw_keep (keep_cons (t := 0) rfl (keep_cons (t := 1) rfl (keep_cons (t := 4) rfl (keep_cons (t := 5) rfl (keep_cons (t := 6) rfl (keep_cons (t := 7) rfl (keep_cons (t := 8) rfl (keep_cons (t := 9) rfl keep_nil)))))))) ?_
    refine aw_block ?_
    refine aw_loop (ι := Nat × Int × Int) (fun s => s.1 ≤ (xs.take 20).length ∧ E2 (spn (xs.take 20) s.1) s.2.1 s.2.2) (fun s => [(0, .int .i64 n), (1, .slice a (xs.take 20).length cap), (4, .bool false), (5, .pointer (some ⟨r2_6, 0, none⟩)), (6, .bool true), (7, .int .i64 s.2.1), (8, .int .i64 s.2.2), (9, .int .i64 s.1)]) (fun _ => [(r2_6, .cells (Chart.cells c).toArray 36 (0, 0))]) (fun s => (xs.take 20).length - s.1) (0, -1, -1) (⟨Nat.zero_le _, rfl, rfl⟩) (by repeat (first | exact keep_nil | refine keep_cons rfl ?_)) (by first | exact Sub.refl _ | exact Sub.drop (Sub.refl _) | exact Sub.keep (Sub.drop (Sub.refl _))) ?_
    intro s hi
    obtain ⟨m, f, t⟩ := s
    obtain ⟨hi0, he⟩ := hi
    simp only at hi0 he ⊢
    refine aw_seq ?_
    refine aw_seq_region ?_
    refine sr_x rfl (wtd_none rfl) rfl (Rd.x (x_move rfl)) ?_
    refine sr_x rfl (wtd_none rfl) rfl (Rd.x (x_move rfl)) ?_
    refine sr_x rfl (wtd_none rfl) rfl (Rd.x (x_lenSlice Try.underlying22 rfl)) ?_
    refine sr_cmp rfl (wtd_none rfl) rfl (Rd.x (x_lt rfl rfl)) (fun h17 => ?_) (fun h17 => ?_)
    · refine sr_nil ?_
      refine aw_keep (keep_cons (t := 0) rfl (keep_cons (t := 1) rfl (keep_cons (t := 4) rfl (keep_cons (t := 5) rfl (keep_cons (t := 6) rfl (keep_cons (t := 7) rfl (keep_cons (t := 8) rfl (keep_cons (t := 9) rfl (keep_cons (t := 20) rfl (keep_cons (t := 21) rfl (keep_cons (t := 22) rfl (keep_cons (t := 23) rfl keep_nil)))))))))))) ?_
      refine aw_true rfl ?_
      refine aw_skip ?_
      show AW _ _ _ _ _ _ _
      refine aw_seq ?_
      refine aw_block ?_
      refine aw_seq_region ?_
      obtain ⟨xj, hxj⟩ := get_ex (show m < (xs.take 20).length by omega)
      obtain ⟨bj, oj, haj, hcj⟩ := (hs.take 20).at_ m _ hxj
      refine sr_x rfl (wtd_none rfl) rfl (Rd.x (x_move rfl)) ?_
      refine sr_x rfl (wtd_none rfl) rfl (Rd.x (x_move rfl)) ?_
      refine sr_x rfl (wtd_none rfl) rfl (Rd.x (x_indexAddrN m Try.underlying22 sz28 rfl haj rfl rfl (by omega))) ?_
      refine sr_x rfl (wtd_none rfl) rfl (Rd.x (x_loadN ag28 sz28 rfl (Cells.mono hcj (by repeat (first | exact Sub.refl _ | apply Sub.drop))) rfl)) ?_
      refine sr_new rfl (wtd_none rfl) rfl (x_alloc zr28 rfl) ?_
      intro r7_4 hr7_4 gr7_4
      refine sr_x0 rfl (wtd_none rfl) (x_store sz28 rfl rfl rfl rfl rfl (by repeat (first | exact Repl.here | apply Repl.there)) (by repeat (first | exact Spl.done | exact Spl.all rfl | apply Spl.put | apply Spl.skip))) ?_
      refine sr_nil ?_
      refine aw_keep (keep_cons (t := 0) rfl (keep_cons (t := 1) rfl (keep_cons (t := 4) rfl (keep_cons (t := 5) rfl (keep_cons (t := 6) rfl (keep_cons (t := 7) rfl (keep_cons (t := 8) rfl (keep_cons (t := 9) rfl (keep_cons (t := 10) rfl (keep_cons (t := 20) rfl (keep_cons (t := 21) rfl (keep_cons (t := 22) rfl (keep_cons (t := 23) rfl (keep_cons (t := 26) rfl (keep_cons (t := 27) rfl (keep_cons (t := 28) rfl (keep_cons (t := 29) rfl keep_nil))))))))))))))))) ?_
      refine aw_seq ?_
      refine aw_seq_region ?_
      refine sr_x rfl (wtd_none rfl) rfl (Rd.x (x_fieldAddr fd28_6 rfl)) ?_
      refine sr_x rfl (wtd_none rfl) rfl (Rd.x (x_load ag2 rfl (cells_ext (by repeat (first | exact List.mem_cons_self | apply List.mem_cons_of_mem)) (by repeat (first | exact Ext.all _ | exact Ext.done | apply Ext.take | apply Ext.skip))))) ?_
      refine sr_cmp rfl (wtd_none rfl) rfl (Rd.x (x_lt rfl rfl)) (fun h18 => ?_) (fun h18 => ?_)
      · refine sr_x rfl (wtd_none rfl) rfl (Rd.x (x_move rfl)) ?_
        refine sr_skip rfl (wtd_no rfl rfl rfl rfl) rfl ?_
        refine sr_skip rfl (wtd_no rfl rfl rfl rfl) rfl ?_
        refine sr_skip rfl (wtd_no rfl rfl rfl rfl) rfl ?_
        refine sr_x rfl (wtd_none rfl) rfl (Rd.x (x_pick_t rfl rfl rfl)) ?_
        refine sr_x rfl (wtd_none rfl) rfl (Rd.x (x_move rfl)) ?_
        refine sr_skip rfl (wtd_no rfl rfl rfl rfl) rfl ?_
        refine sr_skip rfl (wtd_no rfl rfl rfl rfl) rfl ?_
        refine sr_skip rfl (wtd_no rfl rfl rfl rfl) rfl ?_
        refine sr_skip rfl (wtd_no rfl rfl rfl rfl) rfl ?_
        refine sr_skip rfl (wtd_no rfl rfl rfl rfl) rfl ?_
        refine sr_x rfl (wtd_none rfl) rfl (Rd.x (x_pick_t rfl rfl rfl)) ?_
        refine sr_x rfl (wtd_none rfl) rfl (Rd.x (x_move rfl)) ?_
        refine sr_skip rfl (wtd_no rfl rfl rfl rfl) rfl ?_
        refine sr_skip rfl (wtd_no rfl rfl rfl rfl) rfl ?_
        refine sr_skip rfl (wtd_no rfl rfl rfl rfl) rfl ?_
        refine sr_x rfl (wtd_none rfl) rfl (Rd.x (x_pick_t rfl rfl rfl)) ?_
        refine sr_nil ?_
        refine aw_keep (keep_cons (t := 0) rfl (keep_cons (t := 1) rfl (keep_cons (t := 4) rfl (keep_cons (t := 5) rfl (keep_cons (t := 6) rfl (keep_cons (t := 7) rfl (keep_cons (t := 8) rfl (keep_cons (t := 9) rfl (keep_cons (t := 10) rfl (keep_cons (t := 20) rfl (keep_cons (t := 21) rfl (keep_cons (t := 22) rfl (keep_cons (t := 23) rfl (keep_cons (t := 26) rfl (keep_cons (t := 27) rfl (keep_cons (t := 28) rfl (keep_cons (t := 29) rfl (keep_cons (t := 30) rfl (keep_cons (t := 31) rfl (keep_cons (t := 32) rfl (keep_cons (t := 33) rfl (keep_cons (t := 34) rfl (keep_cons (t := 35) rfl (keep_cons (t := 36) rfl (keep_cons (t := 37) rfl (keep_cons (t := 38) rfl (keep_cons (t := 39) rfl (keep_cons (t := 40) rfl (keep_cons (t := 41) rfl (keep_cons (t := 42) rfl (keep_cons (t := 43) rfl (keep_cons (t := 44) rfl (keep_cons (t := 45) rfl (keep_cons (t := 46) rfl (keep_cons (t := 47) rfl (keep_cons (t := 48) rfl (keep_cons (t := 49) rfl keep_nil))))))))))))))))))))))))))))))))))))) ?_
        refine aw_true rfl ?_
        refine aw_exit ?_
        show AW _ _ _ _ _ _ _
        refine aw_region ?_
        refine sr_x rfl (wtd_none rfl) rfl (Rd.x (x_move rfl)) ?_
        refine sr_x rfl (wtd_none rfl) rfl (Rd.x (x_add' rfl rfl (i64w (by omega) (by omega)))) ?_
        refine sr_x rfl (wtd_none rfl) rfl (Rd.x (x_assign rfl)) ?_
        refine sr_nil ?_
        show ∃ s', _ ∧ _ ∧ _ ∧ _
        first | exact ⟨(m + 1, xj.start, xj.fin), ⟨by show m + 1 ≤ _; omega, e2_yes (f' := xj.start) (t' := xj.fin) hxj ⟨by omega, by omega, by omega, by omega⟩ he (by omega) (by omega)⟩, by show _ - (m + 1) < _ - m; omega, (by repeat (first | exact keep_nil | refine keep_cons rfl ?_)), (by first | exact Sub.refl _ | exact Sub.drop (Sub.refl _) | exact Sub.keep (Sub.drop (Sub.refl _)))⟩ | exact ⟨(m + 1, xj.start, t), ⟨by show m + 1 ≤ _; omega, e2_yes (f' := xj.start) (t' := t) hxj ⟨by omega, by omega, by omega, by omega⟩ he (by omega) (by omega)⟩, by show _ - (m + 1) < _ - m; omega, (by repeat (first | exact keep_nil | refine keep_cons rfl ?_)), (by first | exact Sub.refl _ | exact Sub.drop (Sub.refl _) | exact Sub.keep (Sub.drop (Sub.refl _)))⟩ | exact ⟨(m + 1, f, xj.fin), ⟨by show m + 1 ≤ _; omega, e2_yes (f' := f) (t' := xj.fin) hxj ⟨by omega, by omega, by omega, by omega⟩ he (by omega) (by omega)⟩, by show _ - (m + 1) < _ - m; omega, (by repeat (first | exact keep_nil | refine keep_cons rfl ?_)), (by first | exact Sub.refl _ | exact Sub.drop (Sub.refl _) | exact Sub.keep (Sub.drop (Sub.refl _)))⟩ | exact ⟨(m + 1, f, t), ⟨by show m + 1 ≤ _; omega, e2_yes (f' := f) (t' := t) hxj ⟨by omega, by omega, by omega, by omega⟩ he (by omega) (by omega)⟩, by show _ - (m + 1) < _ - m; omega, (by repeat (first | exact keep_nil | refine keep_cons rfl ?_)), (by first | exact Sub.refl _ | exact Sub.drop (Sub.refl _) | exact Sub.keep (Sub.drop (Sub.refl _)))⟩ | exact ⟨(m + 1, _, _), ⟨by show m + 1 ≤ _; omega, e2_no hxj (by unfold okF; omega) he⟩, by show _ - (m + 1) < _ - m; omega, (by repeat (first | exact keep_nil | refine keep_cons rfl ?_)), (by first | exact Sub.refl _ | exact Sub.drop (Sub.refl _) | exact Sub.keep (Sub.drop (Sub.refl _)))⟩
      · refine sr_x rfl (wtd_none rfl) rfl (Rd.x (x_move rfl)) ?_
        refine sr_x rfl (wtd_yes rfl rfl rfl) rfl (Rd.x (x_fieldAddr fd28_6 rfl)) ?_
        refine sr_x rfl (wtd_yes rfl rfl rfl) rfl (Rd.x (x_load ag2 rfl (cells_ext (by repeat (first | exact List.mem_cons_self | apply List.mem_cons_of_mem)) (by repeat (first | exact Ext.all _ | exact Ext.done | apply Ext.take | apply Ext.skip))))) ?_
        refine sr_cmp rfl (wtd_yes rfl rfl rfl) rfl (Rd.x (x_gt rfl rfl)) (fun h19 => ?_) (fun h19 => ?_)
        · refine sr_x rfl (wtd_none rfl) rfl (Rd.x (x_pick_f rfl rfl rfl)) ?_
          refine sr_x rfl (wtd_none rfl) rfl (Rd.x (x_move rfl)) ?_
          refine sr_skip rfl (wtd_no rfl rfl rfl rfl) rfl ?_
          refine sr_skip rfl (wtd_no rfl rfl rfl rfl) rfl ?_
          refine sr_skip rfl (wtd_no rfl rfl rfl rfl) rfl ?_
          refine sr_skip rfl (wtd_no rfl rfl rfl rfl) rfl ?_
          refine sr_skip rfl (wtd_no rfl rfl rfl rfl) rfl ?_
          refine sr_x rfl (wtd_none rfl) rfl (Rd.x (x_pick_t rfl rfl rfl)) ?_
          refine sr_x rfl (wtd_none rfl) rfl (Rd.x (x_move rfl)) ?_
          refine sr_skip rfl (wtd_no rfl rfl rfl rfl) rfl ?_
          refine sr_skip rfl (wtd_no rfl rfl rfl rfl) rfl ?_
          refine sr_skip rfl (wtd_no rfl rfl rfl rfl) rfl ?_
          refine sr_x rfl (wtd_none rfl) rfl (Rd.x (x_pick_t rfl rfl rfl)) ?_
          refine sr_nil ?_
          refine aw_keep (keep_cons (t := 0) rfl (keep_cons (t := 1) rfl (keep_cons (t := 4) rfl (keep_cons (t := 5) rfl (keep_cons (t := 6) rfl (keep_cons (t := 7) rfl (keep_cons (t := 8) rfl (keep_cons (t := 9) rfl (keep_cons (t := 10) rfl (keep_cons (t := 20) rfl (keep_cons (t := 21) rfl (keep_cons (t := 22) rfl (keep_cons (t := 23) rfl (keep_cons (t := 26) rfl (keep_cons (t := 27) rfl (keep_cons (t := 28) rfl (keep_cons (t := 29) rfl (keep_cons (t := 30) rfl (keep_cons (t := 31) rfl (keep_cons (t := 32) rfl (keep_cons (t := 33) rfl (keep_cons (t := 34) rfl (keep_cons (t := 35) rfl (keep_cons (t := 36) rfl (keep_cons (t := 37) rfl (keep_cons (t := 38) rfl (keep_cons (t := 39) rfl (keep_cons (t := 40) rfl (keep_cons (t := 41) rfl (keep_cons (t := 42) rfl (keep_cons (t := 43) rfl (keep_cons (t := 44) rfl (keep_cons (t := 45) rfl (keep_cons (t := 46) rfl (keep_cons (t := 47) rfl (keep_cons (t := 48) rfl (keep_cons (t := 49) rfl keep_nil))))))))))))))))))))))))))))))))))))) ?_
          refine aw_true rfl ?_
          refine aw_exit ?_
          show AW _ _ _ _ _ _ _
          refine aw_region ?_
          refine sr_x rfl (wtd_none rfl) rfl (Rd.x (x_move rfl)) ?_
          refine sr_x rfl (wtd_none rfl) rfl (Rd.x (x_add' rfl rfl (i64w (by omega) (by omega)))) ?_
          refine sr_x rfl (wtd_none rfl) rfl (Rd.x (x_assign rfl)) ?_
          refine sr_nil ?_
          show ∃ s', _ ∧ _ ∧ _ ∧ _
          first | exact ⟨(m + 1, xj.start, xj.fin), ⟨by show m + 1 ≤ _; omega, e2_yes (f' := xj.start) (t' := xj.fin) hxj ⟨by omega, by omega, by omega, by omega⟩ he (by omega) (by omega)⟩, by show _ - (m + 1) < _ - m; omega, (by repeat (first | exact keep_nil | refine keep_cons rfl ?_)), (by first | exact Sub.refl _ | exact Sub.drop (Sub.refl _) | exact Sub.keep (Sub.drop (Sub.refl _)))⟩ | exact ⟨(m + 1, xj.start, t), ⟨by show m + 1 ≤ _; omega, e2_yes (f' := xj.start) (t' := t) hxj ⟨by omega, by omega, by omega, by omega⟩ he (by omega) (by omega)⟩, by show _ - (m + 1) < _ - m; omega, (by repeat (first | exact keep_nil | refine keep_cons rfl ?_)), (by first | exact Sub.refl _ | exact Sub.drop (Sub.refl _) | exact Sub.keep (Sub.drop (Sub.refl _)))⟩ | exact ⟨(m + 1, f, xj.fin), ⟨by show m + 1 ≤ _; omega, e2_yes (f' := f) (t' := xj.fin) hxj ⟨by omega, by omega, by omega, by omega⟩ he (by omega) (by omega)⟩, by show _ - (m + 1) < _ - m; omega, (by repeat (first | exact keep_nil | refine keep_cons rfl ?_)), (by first | exact Sub.refl _ | exact Sub.drop (Sub.refl _) | exact Sub.keep (Sub.drop (Sub.refl _)))⟩ | exact ⟨(m + 1, f, t), ⟨by show m + 1 ≤ _; omega, e2_yes (f' := f) (t' := t) hxj ⟨by omega, by omega, by omega, by omega⟩ he (by omega) (by omega)⟩, by show _ - (m + 1) < _ - m; omega, (by repeat (first | exact keep_nil | refine keep_cons rfl ?_)), (by first | exact Sub.refl _ | exact Sub.drop (Sub.refl _) | exact Sub.keep (Sub.drop (Sub.refl _)))⟩ | exact ⟨(m + 1, _, _), ⟨by show m + 1 ≤ _; omega, e2_no hxj (by unfold okF; omega) he⟩, by show _ - (m + 1) < _ - m; omega, (by repeat (first | exact keep_nil | refine keep_cons rfl ?_)), (by first | exact Sub.refl _ | exact Sub.drop (Sub.refl _) | exact Sub.keep (Sub.drop (Sub.refl _)))⟩
        · refine sr_x rfl (wtd_none rfl) rfl (Rd.x (x_pick_f rfl rfl rfl)) ?_
          refine sr_x rfl (wtd_none rfl) rfl (Rd.x (x_move rfl)) ?_
          refine sr_x rfl (wtd_yes rfl rfl rfl) rfl (Rd.x (x_fieldAddr fd28_7 rfl)) ?_
          refine sr_x rfl (wtd_yes rfl rfl rfl) rfl (Rd.x (x_load ag2 rfl (cells_ext (by repeat (first | exact List.mem_cons_self | apply List.mem_cons_of_mem)) (by repeat (first | exact Ext.all _ | exact Ext.done | apply Ext.take | apply Ext.skip))))) ?_
          refine sr_x rfl (wtd_yes rfl rfl rfl) rfl (Rd.x (x_fieldAddr fd28_6 rfl)) ?_
          refine sr_x rfl (wtd_yes rfl rfl rfl) rfl (Rd.x (x_load ag2 rfl (cells_ext (by repeat (first | exact List.mem_cons_self | apply List.mem_cons_of_mem)) (by repeat (first | exact Ext.all _ | exact Ext.done | apply Ext.take | apply Ext.skip))))) ?_
          refine sr_cmp rfl (wtd_yes rfl rfl rfl) rfl (Rd.x (x_le rfl rfl)) (fun h20 => ?_) (fun h20 => ?_)
          · refine sr_x rfl (wtd_none rfl) rfl (Rd.x (x_pick_f rfl rfl rfl)) ?_
            refine sr_x rfl (wtd_none rfl) rfl (Rd.x (x_move rfl)) ?_
            refine sr_skip rfl (wtd_no rfl rfl rfl rfl) rfl ?_
            refine sr_skip rfl (wtd_no rfl rfl rfl rfl) rfl ?_
            refine sr_skip rfl (wtd_no rfl rfl rfl rfl) rfl ?_
            refine sr_x rfl (wtd_none rfl) rfl (Rd.x (x_pick_t rfl rfl rfl)) ?_
            refine sr_nil ?_
            refine aw_keep (keep_cons (t := 0) rfl (keep_cons (t := 1) rfl (keep_cons (t := 4) rfl (keep_cons (t := 5) rfl (keep_cons (t := 6) rfl (keep_cons (t := 7) rfl (keep_cons (t := 8) rfl (keep_cons (t := 9) rfl (keep_cons (t := 10) rfl (keep_cons (t := 20) rfl (keep_cons (t := 21) rfl (keep_cons (t := 22) rfl (keep_cons (t := 23) rfl (keep_cons (t := 26) rfl (keep_cons (t := 27) rfl (keep_cons (t := 28) rfl (keep_cons (t := 29) rfl (keep_cons (t := 30) rfl (keep_cons (t := 31) rfl (keep_cons (t := 32) rfl (keep_cons (t := 33) rfl (keep_cons (t := 34) rfl (keep_cons (t := 35) rfl (keep_cons (t := 36) rfl (keep_cons (t := 37) rfl (keep_cons (t := 38) rfl (keep_cons (t := 39) rfl (keep_cons (t := 40) rfl (keep_cons (t := 41) rfl (keep_cons (t := 42) rfl (keep_cons (t := 43) rfl (keep_cons (t := 44) rfl (keep_cons (t := 45) rfl (keep_cons (t := 46) rfl (keep_cons (t := 47) rfl (keep_cons (t := 48) rfl (keep_cons (t := 49) rfl keep_nil))))))))))))))))))))))))))))))))))))) ?_
            refine aw_true rfl ?_
            refine aw_exit ?_
            show AW _ _ _ _ _ _ _
            refine aw_region ?_
            refine sr_x rfl (wtd_none rfl) rfl (Rd.x (x_move rfl)) ?_
            refine sr_x rfl (wtd_none rfl) rfl (Rd.x (x_add' rfl rfl (i64w (by omega) (by omega)))) ?_
            refine sr_x rfl (wtd_none rfl) rfl (Rd.x (x_assign rfl)) ?_
            refine sr_nil ?_
            show ∃ s', _ ∧ _ ∧ _ ∧ _
            first | exact ⟨(m + 1, xj.start, xj.fin), ⟨by show m + 1 ≤ _; omega, e2_yes (f' := xj.start) (t' := xj.fin) hxj ⟨by omega, by omega, by omega, by omega⟩ he (by omega) (by omega)⟩, by show _ - (m + 1) < _ - m; omega, (by repeat (first | exact keep_nil | refine keep_cons rfl ?_)), (by first | exact Sub.refl _ | exact Sub.drop (Sub.refl _) | exact Sub.keep (Sub.drop (Sub.refl _)))⟩ | exact ⟨(m + 1, xj.start, t), ⟨by show m + 1 ≤ _; omega, e2_yes (f' := xj.start) (t' := t) hxj ⟨by omega, by omega, by omega, by omega⟩ he (by omega) (by omega)⟩, by show _ - (m + 1) < _ - m; omega, (by repeat (first | exact keep_nil | refine keep_cons rfl ?_)), (by first | exact Sub.refl _ | exact Sub.drop (Sub.refl _) | exact Sub.keep (Sub.drop (Sub.refl _)))⟩ | exact ⟨(m + 1, f, xj.fin), ⟨by show m + 1 ≤ _; omega, e2_yes (f' := f) (t' := xj.fin) hxj ⟨by omega, by omega, by omega, by omega⟩ he (by omega) (by omega)⟩, by show _ - (m + 1) < _ - m; omega, (by repeat (first | exact keep_nil | refine keep_cons rfl ?_)), (by first | exact Sub.refl _ | exact Sub.drop (Sub.refl _) | exact Sub.keep (Sub.drop (Sub.refl _)))⟩ | exact ⟨(m + 1, f, t), ⟨by show m + 1 ≤ _; omega, e2_yes (f' := f) (t' := t) hxj ⟨by omega, by omega, by omega, by omega⟩ he (by omega) (by omega)⟩, by show _ - (m + 1) < _ - m; omega, (by repeat (first | exact keep_nil | refine keep_cons rfl ?_)), (by first | exact Sub.refl _ | exact Sub.drop (Sub.refl _) | exact Sub.keep (Sub.drop (Sub.refl _)))⟩ | exact ⟨(m + 1, _, _), ⟨by show m + 1 ≤ _; omega, e2_no hxj (by unfold okF; omega) he⟩, by show _ - (m + 1) < _ - m; omega, (by repeat (first | exact keep_nil | refine keep_cons rfl ?_)), (by first | exact Sub.refl _ | exact Sub.drop (Sub.refl _) | exact Sub.keep (Sub.drop (Sub.refl _)))⟩
          · refine sr_x rfl (wtd_none rfl) rfl (Rd.x (x_pick_f rfl rfl rfl)) ?_
            refine sr_x rfl (wtd_none rfl) rfl (Rd.x (x_move rfl)) ?_
            refine sr_x rfl (wtd_yes rfl rfl rfl) rfl (Rd.x (x_fieldAddr fd28_7 rfl)) ?_
            refine sr_x rfl (wtd_yes rfl rfl rfl) rfl (Rd.x (x_load ag2 rfl (cells_ext (by repeat (first | exact List.mem_cons_self | apply List.mem_cons_of_mem)) (by repeat (first | exact Ext.all _ | exact Ext.done | apply Ext.take | apply Ext.skip))))) ?_
            refine sr_cmp rfl (wtd_yes rfl rfl rfl) rfl (Rd.x (x_gt rfl rfl)) (fun h21 => ?_) (fun h21 => ?_)
            · refine sr_x rfl (wtd_none rfl) rfl (Rd.x (x_pick_f rfl rfl rfl)) ?_
              refine sr_nil ?_
              refine aw_keep (keep_cons (t := 0) rfl (keep_cons (t := 1) rfl (keep_cons (t := 4) rfl (keep_cons (t := 5) rfl (keep_cons (t := 6) rfl (keep_cons (t := 7) rfl (keep_cons (t := 8) rfl (keep_cons (t := 9) rfl (keep_cons (t := 10) rfl (keep_cons (t := 20) rfl (keep_cons (t := 21) rfl (keep_cons (t := 22) rfl (keep_cons (t := 23) rfl (keep_cons (t := 26) rfl (keep_cons (t := 27) rfl (keep_cons (t := 28) rfl (keep_cons (t := 29) rfl (keep_cons (t := 30) rfl (keep_cons (t := 31) rfl (keep_cons (t := 32) rfl (keep_cons (t := 33) rfl (keep_cons (t := 34) rfl (keep_cons (t := 35) rfl (keep_cons (t := 36) rfl (keep_cons (t := 37) rfl (keep_cons (t := 38) rfl (keep_cons (t := 39) rfl (keep_cons (t := 40) rfl (keep_cons (t := 41) rfl (keep_cons (t := 42) rfl (keep_cons (t := 43) rfl (keep_cons (t := 44) rfl (keep_cons (t := 45) rfl (keep_cons (t := 46) rfl (keep_cons (t := 47) rfl (keep_cons (t := 48) rfl (keep_cons (t := 49) rfl keep_nil))))))))))))))))))))))))))))))))))))) ?_
              refine aw_true rfl ?_
              refine aw_exit ?_
              show AW _ _ _ _ _ _ _
              refine aw_region ?_
              refine sr_x rfl (wtd_none rfl) rfl (Rd.x (x_move rfl)) ?_
              refine sr_x rfl (wtd_none rfl) rfl (Rd.x (x_add' rfl rfl (i64w (by omega) (by omega)))) ?_
              refine sr_x rfl (wtd_none rfl) rfl (Rd.x (x_assign rfl)) ?_
              refine sr_nil ?_
              show ∃ s', _ ∧ _ ∧ _ ∧ _
              first | exact ⟨(m + 1, xj.start, xj.fin), ⟨by show m + 1 ≤ _; omega, e2_yes (f' := xj.start) (t' := xj.fin) hxj ⟨by omega, by omega, by omega, by omega⟩ he (by omega) (by omega)⟩, by show _ - (m + 1) < _ - m; omega, (by repeat (first | exact keep_nil | refine keep_cons rfl ?_)), (by first | exact Sub.refl _ | exact Sub.drop (Sub.refl _) | exact Sub.keep (Sub.drop (Sub.refl _)))⟩ | exact ⟨(m + 1, xj.start, t), ⟨by show m + 1 ≤ _; omega, e2_yes (f' := xj.start) (t' := t) hxj ⟨by omega, by omega, by omega, by omega⟩ he (by omega) (by omega)⟩, by show _ - (m + 1) < _ - m; omega, (by repeat (first | exact keep_nil | refine keep_cons rfl ?_)), (by first | exact Sub.refl _ | exact Sub.drop (Sub.refl _) | exact Sub.keep (Sub.drop (Sub.refl _)))⟩ | exact ⟨(m + 1, f, xj.fin), ⟨by show m + 1 ≤ _; omega, e2_yes (f' := f) (t' := xj.fin) hxj ⟨by omega, by omega, by omega, by omega⟩ he (by omega) (by omega)⟩, by show _ - (m + 1) < _ - m; omega, (by repeat (first | exact keep_nil | refine keep_cons rfl ?_)), (by first | exact Sub.refl _ | exact Sub.drop (Sub.refl _) | exact Sub.keep (Sub.drop (Sub.refl _)))⟩ | exact ⟨(m + 1, f, t), ⟨by show m + 1 ≤ _; omega, e2_yes (f' := f) (t' := t) hxj ⟨by omega, by omega, by omega, by omega⟩ he (by omega) (by omega)⟩, by show _ - (m + 1) < _ - m; omega, (by repeat (first | exact keep_nil | refine keep_cons rfl ?_)), (by first | exact Sub.refl _ | exact Sub.drop (Sub.refl _) | exact Sub.keep (Sub.drop (Sub.refl _)))⟩ | exact ⟨(m + 1, _, _), ⟨by show m + 1 ≤ _; omega, e2_no hxj (by unfold okF; omega) he⟩, by show _ - (m + 1) < _ - m; omega, (by repeat (first | exact keep_nil | refine keep_cons rfl ?_)), (by first | exact Sub.refl _ | exact Sub.drop (Sub.refl _) | exact Sub.keep (Sub.drop (Sub.refl _)))⟩
            · refine sr_x rfl (wtd_none rfl) rfl (Rd.x (x_pick_f rfl rfl rfl)) ?_
              refine sr_nil ?_
              refine aw_keep (keep_cons (t := 0) rfl (keep_cons (t := 1) rfl (keep_cons (t := 4) rfl (keep_cons (t := 5) rfl (keep_cons (t := 6) rfl (keep_cons (t := 7) rfl (keep_cons (t := 8) rfl (keep_cons (t := 9) rfl (keep_cons (t := 10) rfl (keep_cons (t := 20) rfl (keep_cons (t := 21) rfl (keep_cons (t := 22) rfl (keep_cons (t := 23) rfl (keep_cons (t := 26) rfl (keep_cons (t := 27) rfl (keep_cons (t := 28) rfl (keep_cons (t := 29) rfl (keep_cons (t := 30) rfl (keep_cons (t := 31) rfl (keep_cons (t := 32) rfl (keep_cons (t := 33) rfl (keep_cons (t := 34) rfl (keep_cons (t := 35) rfl (keep_cons (t := 36) rfl (keep_cons (t := 37) rfl (keep_cons (t := 38) rfl (keep_cons (t := 39) rfl (keep_cons (t := 40) rfl (keep_cons (t := 41) rfl (keep_cons (t := 42) rfl (keep_cons (t := 43) rfl (keep_cons (t := 44) rfl (keep_cons (t := 45) rfl (keep_cons (t := 46) rfl (keep_cons (t := 47) rfl (keep_cons (t := 48) rfl (keep_cons (t := 49) rfl keep_nil))))))))))))))))))))))))))))))))))))) ?_
              refine aw_false rfl ?_
              refine aw_skip ?_
              show AW _ _ _ _ _ _ _
              refine aw_seq ?_
              refine aw_seq_region ?_
              refine sr_x rfl (wtd_none rfl) rfl (Rd.x (x_move rfl)) ?_
              refine sr_cmp rfl (wtd_none rfl) rfl (Rd.x (x_lt rfl rfl)) (fun h22 => ?_) (fun h22 => ?_)
              · refine sr_x rfl (wtd_none rfl) rfl (Rd.x (x_move rfl)) ?_
                refine sr_skip rfl (wtd_no rfl rfl rfl rfl) rfl ?_
                refine sr_skip rfl (wtd_no rfl rfl rfl rfl) rfl ?_
                refine sr_skip rfl (wtd_no rfl rfl rfl rfl) rfl ?_
                refine sr_skip rfl (wtd_no rfl rfl rfl rfl) rfl ?_
                refine sr_x rfl (wtd_none rfl) rfl (Rd.x (x_pick_t rfl rfl rfl)) ?_
                refine sr_nil ?_
                refine aw_keep (keep_cons (t := 0) rfl (keep_cons (t := 1) rfl (keep_cons (t := 4) rfl (keep_cons (t := 5) rfl (keep_cons (t := 6) rfl (keep_cons (t := 7) rfl (keep_cons (t := 8) rfl (keep_cons (t := 9) rfl (keep_cons (t := 10) rfl (keep_cons (t := 20) rfl (keep_cons (t := 21) rfl (keep_cons (t := 22) rfl (keep_cons (t := 23) rfl (keep_cons (t := 26) rfl (keep_cons (t := 27) rfl (keep_cons (t := 28) rfl (keep_cons (t := 29) rfl (keep_cons (t := 30) rfl (keep_cons (t := 31) rfl (keep_cons (t := 32) rfl (keep_cons (t := 33) rfl (keep_cons (t := 34) rfl (keep_cons (t := 35) rfl (keep_cons (t := 36) rfl (keep_cons (t := 37) rfl (keep_cons (t := 38) rfl (keep_cons (t := 39) rfl (keep_cons (t := 40) rfl (keep_cons (t := 41) rfl (keep_cons (t := 42) rfl (keep_cons (t := 43) rfl (keep_cons (t := 44) rfl (keep_cons (t := 45) rfl (keep_cons (t := 46) rfl (keep_cons (t := 47) rfl (keep_cons (t := 48) rfl (keep_cons (t := 49) rfl (keep_cons (t := 50) rfl (keep_cons (t := 51) rfl (keep_cons (t := 52) rfl (keep_cons (t := 53) rfl (keep_cons (t := 54) rfl (keep_cons (t := 55) rfl (keep_cons (t := 56) rfl (keep_cons (t := 57) rfl keep_nil))))))))))))))))))))))))))))))))))))))))))))) ?_
                refine aw_true rfl ?_
                refine aw_region ?_
                refine sr_x rfl (wtd_none rfl) rfl (Rd.x (x_fieldAddr fd28_6 rfl)) ?_
                refine sr_x rfl (wtd_none rfl) rfl (Rd.x (x_load ag2 rfl (cells_ext (by repeat (first | exact List.mem_cons_self | apply List.mem_cons_of_mem)) (by repeat (first | exact Ext.all _ | exact Ext.done | apply Ext.take | apply Ext.skip))))) ?_
                refine sr_x rfl (wtd_none rfl) rfl (Rd.x (x_assign rfl)) ?_
                refine sr_nil ?_
                show AW _ _ _ _ _ _ _
                refine aw_seq_region ?_
                refine sr_x rfl (wtd_none rfl) rfl (Rd.x (x_fieldAddr fd28_7 rfl)) ?_
                refine sr_x rfl (wtd_none rfl) rfl (Rd.x (x_load ag2 rfl (cells_ext (by repeat (first | exact List.mem_cons_self | apply List.mem_cons_of_mem)) (by repeat (first | exact Ext.all _ | exact Ext.done | apply Ext.take | apply Ext.skip))))) ?_
                refine sr_x rfl (wtd_none rfl) rfl (Rd.x (x_move rfl)) ?_
                refine sr_cmp rfl (wtd_none rfl) rfl (Rd.x (x_gt rfl rfl)) (fun h23 => ?_) (fun h23 => ?_)
                · refine sr_nil ?_
                  refine aw_keep (keep_cons (t := 0) rfl (keep_cons (t := 1) rfl (keep_cons (t := 4) rfl (keep_cons (t := 5) rfl (keep_cons (t := 6) rfl (keep_cons (t := 7) rfl (keep_cons (t := 8) rfl (keep_cons (t := 9) rfl (keep_cons (t := 10) rfl (keep_cons (t := 20) rfl (keep_cons (t := 21) rfl (keep_cons (t := 22) rfl (keep_cons (t := 23) rfl (keep_cons (t := 26) rfl (keep_cons (t := 27) rfl (keep_cons (t := 28) rfl (keep_cons (t := 29) rfl (keep_cons (t := 30) rfl (keep_cons (t := 31) rfl (keep_cons (t := 32) rfl (keep_cons (t := 33) rfl (keep_cons (t := 34) rfl (keep_cons (t := 35) rfl (keep_cons (t := 36) rfl (keep_cons (t := 37) rfl (keep_cons (t := 38) rfl (keep_cons (t := 39) rfl (keep_cons (t := 40) rfl (keep_cons (t := 41) rfl (keep_cons (t := 42) rfl (keep_cons (t := 43) rfl (keep_cons (t := 44) rfl (keep_cons (t := 45) rfl (keep_cons (t := 46) rfl (keep_cons (t := 47) rfl (keep_cons (t := 48) rfl (keep_cons (t := 49) rfl (keep_cons (t := 50) rfl (keep_cons (t := 51) rfl (keep_cons (t := 52) rfl (keep_cons (t := 53) rfl (keep_cons (t := 54) rfl (keep_cons (t := 55) rfl (keep_cons (t := 56) rfl (keep_cons (t := 57) rfl (keep_cons (t := 58) rfl (keep_cons (t := 59) rfl (keep_cons (t := 60) rfl (keep_cons (t := 61) rfl (keep_cons (t := 62) rfl (keep_cons (t := 63) rfl keep_nil))))))))))))))))))))))))))))))))))))))))))))))))))) ?_
                  refine aw_true rfl ?_
                  refine aw_region ?_
                  refine sr_x rfl (wtd_none rfl) rfl (Rd.x (x_fieldAddr fd28_7 rfl)) ?_
                  refine sr_x rfl (wtd_none rfl) rfl (Rd.x (x_load ag2 rfl (cells_ext (by repeat (first | exact List.mem_cons_self | apply List.mem_cons_of_mem)) (by repeat (first | exact Ext.all _ | exact Ext.done | apply Ext.take | apply Ext.skip))))) ?_
                  refine sr_x rfl (wtd_none rfl) rfl (Rd.x (x_assign rfl)) ?_
                  refine sr_nil ?_
                  show AW _ _ _ _ _ _ _
                  refine aw_region ?_
                  refine sr_x rfl (wtd_none rfl) rfl (Rd.x (x_move rfl)) ?_
                  refine sr_x rfl (wtd_none rfl) rfl (Rd.x (x_add' rfl rfl (i64w (by omega) (by omega)))) ?_
                  refine sr_x rfl (wtd_none rfl) rfl (Rd.x (x_assign rfl)) ?_
                  refine sr_nil ?_
                  show ∃ s', _ ∧ _ ∧ _ ∧ _
                  first | exact ⟨(m + 1, xj.start, xj.fin), ⟨by show m + 1 ≤ _; omega, e2_yes (f' := xj.start) (t' := xj.fin) hxj ⟨by omega, by omega, by omega, by omega⟩ he (by omega) (by omega)⟩, by show _ - (m + 1) < _ - m; omega, (by repeat (first | exact keep_nil | refine keep_cons rfl ?_)), (by first | exact Sub.refl _ | exact Sub.drop (Sub.refl _) | exact Sub.keep (Sub.drop (Sub.refl _)))⟩ | exact ⟨(m + 1, xj.start, t), ⟨by show m + 1 ≤ _; omega, e2_yes (f' := xj.start) (t' := t) hxj ⟨by omega, by omega, by omega, by omega⟩ he (by omega) (by omega)⟩, by show _ - (m + 1) < _ - m; omega, (by repeat (first | exact keep_nil | refine keep_cons rfl ?_)), (by first | exact Sub.refl _ | exact Sub.drop (Sub.refl _) | exact Sub.keep (Sub.drop (Sub.refl _)))⟩ | exact ⟨(m + 1, f, xj.fin), ⟨by show m + 1 ≤ _; omega, e2_yes (f' := f) (t' := xj.fin) hxj ⟨by omega, by omega, by omega, by omega⟩ he (by omega) (by omega)⟩, by show _ - (m + 1) < _ - m; omega, (by repeat (first | exact keep_nil | refine keep_cons rfl ?_)), (by first | exact Sub.refl _ | exact Sub.drop (Sub.refl _) | exact Sub.keep (Sub.drop (Sub.refl _)))⟩ | exact ⟨(m + 1, f, t), ⟨by show m + 1 ≤ _; omega, e2_yes (f' := f) (t' := t) hxj ⟨by omega, by omega, by omega, by omega⟩ he (by omega) (by omega)⟩, by show _ - (m + 1) < _ - m; omega, (by repeat (first | exact keep_nil | refine keep_cons rfl ?_)), (by first | exact Sub.refl _ | exact Sub.drop (Sub.refl _) | exact Sub.keep (Sub.drop (Sub.refl _)))⟩ | exact ⟨(m + 1, _, _), ⟨by show m + 1 ≤ _; omega, e2_no hxj (by unfold okF; omega) he⟩, by show _ - (m + 1) < _ - m; omega, (by repeat (first | exact keep_nil | refine keep_cons rfl ?_)), (by first | exact Sub.refl _ | exact Sub.drop (Sub.refl _) | exact Sub.keep (Sub.drop (Sub.refl _)))⟩
                · refine sr_nil ?_
                  refine aw_keep (keep_cons (t := 0) rfl (keep_cons (t := 1) rfl (keep_cons (t := 4) rfl (keep_cons (t := 5) rfl (keep_cons (t := 6) rfl (keep_cons (t := 7) rfl (keep_cons (t := 8) rfl (keep_cons (t := 9) rfl (keep_cons (t := 10) rfl (keep_cons (t := 20) rfl (keep_cons (t := 21) rfl (keep_cons (t := 22) rfl (keep_cons (t := 23) rfl (keep_cons (t := 26) rfl (keep_cons (t := 27) rfl (keep_cons (t := 28) rfl (keep_cons (t := 29) rfl (keep_cons (t := 30) rfl (keep_cons (t := 31) rfl (keep_cons (t := 32) rfl (keep_cons (t := 33) rfl (keep_cons (t := 34) rfl (keep_cons (t := 35) rfl (keep_cons (t := 36) rfl (keep_cons (t := 37) rfl (keep_cons (t := 38) rfl (keep_cons (t := 39) rfl (keep_cons (t := 40) rfl (keep_cons (t := 41) rfl (keep_cons (t := 42) rfl (keep_cons (t := 43) rfl (keep_cons (t := 44) rfl (keep_cons (t := 45) rfl (keep_cons (t := 46) rfl (keep_cons (t := 47) rfl (keep_cons (t := 48) rfl (keep_cons (t := 49) rfl (keep_cons (t := 50) rfl (keep_cons (t := 51) rfl (keep_cons (t := 52) rfl (keep_cons (t := 53) rfl (keep_cons (t := 54) rfl (keep_cons (t := 55) rfl (keep_cons (t := 56) rfl (keep_cons (t := 57) rfl (keep_cons (t := 58) rfl (keep_cons (t := 59) rfl (keep_cons (t := 60) rfl (keep_cons (t := 61) rfl (keep_cons (t := 62) rfl (keep_cons (t := 63) rfl keep_nil))))))))))))))))))))))))))))))))))))))))))))))))))) ?_
                  refine aw_false rfl ?_
                  refine aw_skip ?_
                  show AW _ _ _ _ _ _ _
                  refine aw_region ?_
                  refine sr_x rfl (wtd_none rfl) rfl (Rd.x (x_move rfl)) ?_
                  refine sr_x rfl (wtd_none rfl) rfl (Rd.x (x_add' rfl rfl (i64w (by omega) (by omega)))) ?_
                  refine sr_x rfl (wtd_none rfl) rfl (Rd.x (x_assign rfl)) ?_
                  refine sr_nil ?_
                  show ∃ s', _ ∧ _ ∧ _ ∧ _
                  first | exact ⟨(m + 1, xj.start, xj.fin), ⟨by show m + 1 ≤ _; omega, e2_yes (f' := xj.start) (t' := xj.fin) hxj ⟨by omega, by omega, by omega, by omega⟩ he (by omega) (by omega)⟩, by show _ - (m + 1) < _ - m; omega, (by repeat (first | exact keep_nil | refine keep_cons rfl ?_)), (by first | exact Sub.refl _ | exact Sub.drop (Sub.refl _) | exact Sub.keep (Sub.drop (Sub.refl _)))⟩ | exact ⟨(m + 1, xj.start, t), ⟨by show m + 1 ≤ _; omega, e2_yes (f' := xj.start) (t' := t) hxj ⟨by omega, by omega, by omega, by omega⟩ he (by omega) (by omega)⟩, by show _ - (m + 1) < _ - m; omega, (by repeat (first | exact keep_nil | refine keep_cons rfl ?_)), (by first | exact Sub.refl _ | exact Sub.drop (Sub.refl _) | exact Sub.keep (Sub.drop (Sub.refl _)))⟩ | exact ⟨(m + 1, f, xj.fin), ⟨by show m + 1 ≤ _; omega, e2_yes (f' := f) (t' := xj.fin) hxj ⟨by omega, by omega, by omega, by omega⟩ he (by omega) (by omega)⟩, by show _ - (m + 1) < _ - m; omega, (by repeat (first | exact keep_nil | refine keep_cons rfl ?_)), (by first | exact Sub.refl _ | exact Sub.drop (Sub.refl _) | exact Sub.keep (Sub.drop (Sub.refl _)))⟩ | exact ⟨(m + 1, f, t), ⟨by show m + 1 ≤ _; omega, e2_yes (f' := f) (t' := t) hxj ⟨by omega, by omega, by omega, by omega⟩ he (by omega) (by omega)⟩, by show _ - (m + 1) < _ - m; omega, (by repeat (first | exact keep_nil | refine keep_cons rfl ?_)), (by first | exact Sub.refl _ | exact Sub.drop (Sub.refl _) | exact Sub.keep (Sub.drop (Sub.refl _)))⟩ | exact ⟨(m + 1, _, _), ⟨by show m + 1 ≤ _; omega, e2_no hxj (by unfold okF; omega) he⟩, by show _ - (m + 1) < _ - m; omega, (by repeat (first | exact keep_nil | refine keep_cons rfl ?_)), (by first | exact Sub.refl _ | exact Sub.drop (Sub.refl _) | exact Sub.keep (Sub.drop (Sub.refl _)))⟩
              · refine sr_x rfl (wtd_none rfl) rfl (Rd.x (x_move rfl)) ?_
                refine sr_x rfl (wtd_yes rfl rfl rfl) rfl (Rd.x (x_fieldAddr fd28_6 rfl)) ?_
                refine sr_x rfl (wtd_yes rfl rfl rfl) rfl (Rd.x (x_load ag2 rfl (cells_ext (by repeat (first | exact List.mem_cons_self | apply List.mem_cons_of_mem)) (by repeat (first | exact Ext.all _ | exact Ext.done | apply Ext.take | apply Ext.skip))))) ?_
                refine sr_x rfl (wtd_yes rfl rfl rfl) rfl (Rd.x (x_move rfl)) ?_
                refine sr_cmp rfl (wtd_yes rfl rfl rfl) rfl (Rd.x (x_lt rfl rfl)) (fun h24 => ?_) (fun h24 => ?_)
                · refine sr_x rfl (wtd_none rfl) rfl (Rd.x (x_pick_f rfl rfl rfl)) ?_
                  refine sr_nil ?_
                  refine aw_keep (keep_cons (t := 0) rfl (keep_cons (t := 1) rfl (keep_cons (t := 4) rfl (keep_cons (t := 5) rfl (keep_cons (t := 6) rfl (keep_cons (t := 7) rfl (keep_cons (t := 8) rfl (keep_cons (t := 9) rfl (keep_cons (t := 10) rfl (keep_cons (t := 20) rfl (keep_cons (t := 21) rfl (keep_cons (t := 22) rfl (keep_cons (t := 23) rfl (keep_cons (t := 26) rfl (keep_cons (t := 27) rfl (keep_cons (t := 28) rfl (keep_cons (t := 29) rfl (keep_cons (t := 30) rfl (keep_cons (t := 31) rfl (keep_cons (t := 32) rfl (keep_cons (t := 33) rfl (keep_cons (t := 34) rfl (keep_cons (t := 35) rfl (keep_cons (t := 36) rfl (keep_cons (t := 37) rfl (keep_cons (t := 38) rfl (keep_cons (t := 39) rfl (keep_cons (t := 40) rfl (keep_cons (t := 41) rfl (keep_cons (t := 42) rfl (keep_cons (t := 43) rfl (keep_cons (t := 44) rfl (keep_cons (t := 45) rfl (keep_cons (t := 46) rfl (keep_cons (t := 47) rfl (keep_cons (t := 48) rfl (keep_cons (t := 49) rfl (keep_cons (t := 50) rfl (keep_cons (t := 51) rfl (keep_cons (t := 52) rfl (keep_cons (t := 53) rfl (keep_cons (t := 54) rfl (keep_cons (t := 55) rfl (keep_cons (t := 56) rfl (keep_cons (t := 57) rfl keep_nil))))))))))))))))))))))))))))))))))))))))))))) ?_
                  refine aw_true rfl ?_
                  refine aw_region ?_
                  refine sr_x rfl (wtd_none rfl) rfl (Rd.x (x_fieldAddr fd28_6 rfl)) ?_
                  refine sr_x rfl (wtd_none rfl) rfl (Rd.x (x_load ag2 rfl (cells_ext (by repeat (first | exact List.mem_cons_self | apply List.mem_cons_of_mem)) (by repeat (first | exact Ext.all _ | exact Ext.done | apply Ext.take | apply Ext.skip))))) ?_
                  refine sr_x rfl (wtd_none rfl) rfl (Rd.x (x_assign rfl)) ?_
                  refine sr_nil ?_
                  show AW _ _ _ _ _ _ _
                  refine aw_seq_region ?_
                  refine sr_x rfl (wtd_none rfl) rfl (Rd.x (x_fieldAddr fd28_7 rfl)) ?_
                  refine sr_x rfl (wtd_none rfl) rfl (Rd.x (x_load ag2 rfl (cells_ext (by repeat (first | exact List.mem_cons_self | apply List.mem_cons_of_mem)) (by repeat (first | exact Ext.all _ | exact Ext.done | apply Ext.take | apply Ext.skip))))) ?_
                  refine sr_x rfl (wtd_none rfl) rfl (Rd.x (x_move rfl)) ?_
                  refine sr_cmp rfl (wtd_none rfl) rfl (Rd.x (x_gt rfl rfl)) (fun h25 => ?_) (fun h25 => ?_)
                  · refine sr_nil ?_
                    refine aw_keep (keep_cons (t := 0) rfl (keep_cons (t := 1) rfl (keep_cons (t := 4) rfl (keep_cons (t := 5) rfl (keep_cons (t := 6) rfl (keep_cons (t := 7) rfl (keep_cons (t := 8) rfl (keep_cons (t := 9) rfl (keep_cons (t := 10) rfl (keep_cons (t := 20) rfl (keep_cons (t := 21) rfl (keep_cons (t := 22) rfl (keep_cons (t := 23) rfl (keep_cons (t := 26) rfl (keep_cons (t := 27) rfl (keep_cons (t := 28) rfl (keep_cons (t := 29) rfl (keep_cons (t := 30) rfl (keep_cons (t := 31) rfl (keep_cons (t := 32) rfl (keep_cons (t := 33) rfl (keep_cons (t := 34) rfl (keep_cons (t := 35) rfl (keep_cons (t := 36) rfl (keep_cons (t := 37) rfl (keep_cons (t := 38) rfl (keep_cons (t := 39) rfl (keep_cons (t := 40) rfl (keep_cons (t := 41) rfl (keep_cons (t := 42) rfl (keep_cons (t := 43) rfl (keep_cons (t := 44) rfl (keep_cons (t := 45) rfl (keep_cons (t := 46) rfl (keep_cons (t := 47) rfl (keep_cons (t := 48) rfl (keep_cons (t := 49) rfl (keep_cons (t := 50) rfl (keep_cons (t := 51) rfl (keep_cons (t := 52) rfl (keep_cons (t := 53) rfl (keep_cons (t := 54) rfl (keep_cons (t := 55) rfl (keep_cons (t := 56) rfl (keep_cons (t := 57) rfl (keep_cons (t := 58) rfl (keep_cons (t := 59) rfl (keep_cons (t := 60) rfl (keep_cons (t := 61) rfl (keep_cons (t := 62) rfl (keep_cons (t := 63) rfl keep_nil))))))))))))))))))))))))))))))))))))))))))))))))))) ?_
                    refine aw_true rfl ?_
                    refine aw_region ?_
                    refine sr_x rfl (wtd_none rfl) rfl (Rd.x (x_fieldAddr fd28_7 rfl)) ?_
                    refine sr_x rfl (wtd_none rfl) rfl (Rd.x (x_load ag2 rfl (cells_ext (by repeat (first | exact List.mem_cons_self | apply List.mem_cons_of_mem)) (by repeat (first | exact Ext.all _ | exact Ext.done | apply Ext.take | apply Ext.skip))))) ?_
                    refine sr_x rfl (wtd_none rfl) rfl (Rd.x (x_assign rfl)) ?_
                    refine sr_nil ?_
                    show AW _ _ _ _ _ _ _
                    refine aw_region ?_
                    refine sr_x rfl (wtd_none rfl) rfl (Rd.x (x_move rfl)) ?_
                    refine sr_x rfl (wtd_none rfl) rfl (Rd.x (x_add' rfl rfl (i64w (by omega) (by omega)))) ?_
                    refine sr_x rfl (wtd_none rfl) rfl (Rd.x (x_assign rfl)) ?_
                    refine sr_nil ?_
                    show ∃ s', _ ∧ _ ∧ _ ∧ _
                    first | exact ⟨(m + 1, xj.start, xj.fin), ⟨by show m + 1 ≤ _; omega, e2_yes (f' := xj.start) (t' := xj.fin) hxj ⟨by omega, by omega, by omega, by omega⟩ he (by omega) (by omega)⟩, by show _ - (m + 1) < _ - m; omega, (by repeat (first | exact keep_nil | refine keep_cons rfl ?_)), (by first | exact Sub.refl _ | exact Sub.drop (Sub.refl _) | exact Sub.keep (Sub.drop (Sub.refl _)))⟩ | exact ⟨(m + 1, xj.start, t), ⟨by show m + 1 ≤ _; omega, e2_yes (f' := xj.start) (t' := t) hxj ⟨by omega, by omega, by omega, by omega⟩ he (by omega) (by omega)⟩, by show _ - (m + 1) < _ - m; omega, (by repeat (first | exact keep_nil | refine keep_cons rfl ?_)), (by first | exact Sub.refl _ | exact Sub.drop (Sub.refl _) | exact Sub.keep (Sub.drop (Sub.refl _)))⟩ | exact ⟨(m + 1, f, xj.fin), ⟨by show m + 1 ≤ _; omega, e2_yes (f' := f) (t' := xj.fin) hxj ⟨by omega, by omega, by omega, by omega⟩ he (by omega) (by omega)⟩, by show _ - (m + 1) < _ - m; omega, (by repeat (first | exact keep_nil | refine keep_cons rfl ?_)), (by first | exact Sub.refl _ | exact Sub.drop (Sub.refl _) | exact Sub.keep (Sub.drop (Sub.refl _)))⟩ | exact ⟨(m + 1, f, t), ⟨by show m + 1 ≤ _; omega, e2_yes (f' := f) (t' := t) hxj ⟨by omega, by omega, by omega, by omega⟩ he (by omega) (by omega)⟩, by show _ - (m + 1) < _ - m; omega, (by repeat (first | exact keep_nil | refine keep_cons rfl ?_)), (by first | exact Sub.refl _ | exact Sub.drop (Sub.refl _) | exact Sub.keep (Sub.drop (Sub.refl _)))⟩ | exact ⟨(m + 1, _, _), ⟨by show m + 1 ≤ _; omega, e2_no hxj (by unfold okF; omega) he⟩, by show _ - (m + 1) < _ - m; omega, (by repeat (first | exact keep_nil | refine keep_cons rfl ?_)), (by first | exact Sub.refl _ | exact Sub.drop (Sub.refl _) | exact Sub.keep (Sub.drop (Sub.refl _)))⟩
                  · refine sr_nil ?_
                    refine aw_keep (keep_cons (t := 0) rfl (keep_cons (t := 1) rfl (keep_cons (t := 4) rfl (keep_cons (t := 5) rfl (keep_cons (t := 6) rfl (keep_cons (t := 7) rfl (keep_cons (t := 8) rfl (keep_cons (t := 9) rfl (keep_cons (t := 10) rfl (keep_cons (t := 20) rfl (keep_cons (t := 21) rfl (keep_cons (t := 22) rfl (keep_cons (t := 23) rfl (keep_cons (t := 26) rfl (keep_cons (t := 27) rfl (keep_cons (t := 28) rfl (keep_cons (t := 29) rfl (keep_cons (t := 30) rfl (keep_cons (t := 31) rfl (keep_cons (t := 32) rfl (keep_cons (t := 33) rfl (keep_cons (t := 34) rfl (keep_cons (t := 35) rfl (keep_cons (t := 36) rfl (keep_cons (t := 37) rfl (keep_cons (t := 38) rfl (keep_cons (t := 39) rfl (keep_cons (t := 40) rfl (keep_cons (t := 41) rfl (keep_cons (t := 42) rfl (keep_cons (t := 43) rfl (keep_cons (t := 44) rfl (keep_cons (t := 45) rfl (keep_cons (t := 46) rfl (keep_cons (t := 47) rfl (keep_cons (t := 48) rfl (keep_cons (t := 49) rfl (keep_cons (t := 50) rfl (keep_cons (t := 51) rfl (keep_cons (t := 52) rfl (keep_cons (t := 53) rfl (keep_cons (t := 54) rfl (keep_cons (t := 55) rfl (keep_cons (t := 56) rfl (keep_cons (t := 57) rfl (keep_cons (t := 58) rfl (keep_cons (t := 59) rfl (keep_cons (t := 60) rfl (keep_cons (t := 61) rfl (keep_cons (t := 62) rfl (keep_cons (t := 63) rfl keep_nil))))))))))))))))))))))))))))))))))))))))))))))))))) ?_
                    refine aw_false rfl ?_
                    refine aw_skip ?_
                    show AW _ _ _ _ _ _ _
                    refine aw_region ?_
                    refine sr_x rfl (wtd_none rfl) rfl (Rd.x (x_move rfl)) ?_
                    refine sr_x rfl (wtd_none rfl) rfl (Rd.x (x_add' rfl rfl (i64w (by omega) (by omega)))) ?_
                    refine sr_x rfl (wtd_none rfl) rfl (Rd.x (x_assign rfl)) ?_
                    refine sr_nil ?_
                    show ∃ s', _ ∧ _ ∧ _ ∧ _
                    first | exact ⟨(m + 1, xj.start, xj.fin), ⟨by show m + 1 ≤ _; omega, e2_yes (f' := xj.start) (t' := xj.fin) hxj ⟨by omega, by omega, by omega, by omega⟩ he (by omega) (by omega)⟩, by show _ - (m + 1) < _ - m; omega, (by repeat (first | exact keep_nil | refine keep_cons rfl ?_)), (by first | exact Sub.refl _ | exact Sub.drop (Sub.refl _) | exact Sub.keep (Sub.drop (Sub.refl _)))⟩ | exact ⟨(m + 1, xj.start, t), ⟨by show m + 1 ≤ _; omega, e2_yes (f' := xj.start) (t' := t) hxj ⟨by omega, by omega, by omega, by omega⟩ he (by omega) (by omega)⟩, by show _ - (m + 1) < _ - m; omega, (by repeat (first | exact keep_nil | refine keep_cons rfl ?_)), (by first | exact Sub.refl _ | exact Sub.drop (Sub.refl _) | exact Sub.keep (Sub.drop (Sub.refl _)))⟩ | exact ⟨(m + 1, f, xj.fin), ⟨by show m + 1 ≤ _; omega, e2_yes (f' := f) (t' := xj.fin) hxj ⟨by omega, by omega, by omega, by omega⟩ he (by omega) (by omega)⟩, by show _ - (m + 1) < _ - m; omega, (by repeat (first | exact keep_nil | refine keep_cons rfl ?_)), (by first | exact Sub.refl _ | exact Sub.drop (Sub.refl _) | exact Sub.keep (Sub.drop (Sub.refl _)))⟩ | exact ⟨(m + 1, f, t), ⟨by show m + 1 ≤ _; omega, e2_yes (f' := f) (t' := t) hxj ⟨by omega, by omega, by omega, by omega⟩ he (by omega) (by omega)⟩, by show _ - (m + 1) < _ - m; omega, (by repeat (first | exact keep_nil | refine keep_cons rfl ?_)), (by first | exact Sub.refl _ | exact Sub.drop (Sub.refl _) | exact Sub.keep (Sub.drop (Sub.refl _)))⟩ | exact ⟨(m + 1, _, _), ⟨by show m + 1 ≤ _; omega, e2_no hxj (by unfold okF; omega) he⟩, by show _ - (m + 1) < _ - m; omega, (by repeat (first | exact keep_nil | refine keep_cons rfl ?_)), (by first | exact Sub.refl _ | exact Sub.drop (Sub.refl _) | exact Sub.keep (Sub.drop (Sub.refl _)))⟩
                · refine sr_x rfl (wtd_none rfl) rfl (Rd.x (x_pick_f rfl rfl rfl)) ?_
                  refine sr_nil ?_
                  refine aw_keep (keep_cons (t := 0) rfl (keep_cons (t := 1) rfl (keep_cons (t := 4) rfl (keep_cons (t := 5) rfl (keep_cons (t := 6) rfl (keep_cons (t := 7) rfl (keep_cons (t := 8) rfl (keep_cons (t := 9) rfl (keep_cons (t := 10) rfl (keep_cons (t := 20) rfl (keep_cons (t := 21) rfl (keep_cons (t := 22) rfl (keep_cons (t := 23) rfl (keep_cons (t := 26) rfl (keep_cons (t := 27) rfl (keep_cons (t := 28) rfl (keep_cons (t := 29) rfl (keep_cons (t := 30) rfl (keep_cons (t := 31) rfl (keep_cons (t := 32) rfl (keep_cons (t := 33) rfl (keep_cons (t := 34) rfl (keep_cons (t := 35) rfl (keep_cons (t := 36) rfl (keep_cons (t := 37) rfl (keep_cons (t := 38) rfl (keep_cons (t := 39) rfl (keep_cons (t := 40) rfl (keep_cons (t := 41) rfl (keep_cons (t := 42) rfl (keep_cons (t := 43) rfl (keep_cons (t := 44) rfl (keep_cons (t := 45) rfl (keep_cons (t := 46) rfl (keep_cons (t := 47) rfl (keep_cons (t := 48) rfl (keep_cons (t := 49) rfl (keep_cons (t := 50) rfl (keep_cons (t := 51) rfl (keep_cons (t := 52) rfl (keep_cons (t := 53) rfl (keep_cons (t := 54) rfl (keep_cons (t := 55) rfl (keep_cons (t := 56) rfl (keep_cons (t := 57) rfl keep_nil))))))))))))))))))))))))))))))))))))))))))))) ?_
                  refine aw_false rfl ?_
                  refine aw_skip ?_
                  show AW _ _ _ _ _ _ _
                  refine aw_seq_region ?_
                  refine sr_x rfl (wtd_none rfl) rfl (Rd.x (x_fieldAddr fd28_7 rfl)) ?_
                  refine sr_x rfl (wtd_none rfl) rfl (Rd.x (x_load ag2 rfl (cells_ext (by repeat (first | exact List.mem_cons_self | apply List.mem_cons_of_mem)) (by repeat (first | exact Ext.all _ | exact Ext.done | apply Ext.take | apply Ext.skip))))) ?_
                  refine sr_x rfl (wtd_none rfl) rfl (Rd.x (x_move rfl)) ?_
                  refine sr_cmp rfl (wtd_none rfl) rfl (Rd.x (x_gt rfl rfl)) (fun h26 => ?_) (fun h26 => ?_)
                  · refine sr_nil ?_
                    refine aw_keep (keep_cons (t := 0) rfl (keep_cons (t := 1) rfl (keep_cons (t := 4) rfl (keep_cons (t := 5) rfl (keep_cons (t := 6) rfl (keep_cons (t := 7) rfl (keep_cons (t := 8) rfl (keep_cons (t := 9) rfl (keep_cons (t := 10) rfl (keep_cons (t := 20) rfl (keep_cons (t := 21) rfl (keep_cons (t := 22) rfl (keep_cons (t := 23) rfl (keep_cons (t := 26) rfl (keep_cons (t := 27) rfl (keep_cons (t := 28) rfl (keep_cons (t := 29) rfl (keep_cons (t := 30) rfl (keep_cons (t := 31) rfl (keep_cons (t := 32) rfl (keep_cons (t := 33) rfl (keep_cons (t := 34) rfl (keep_cons (t := 35) rfl (keep_cons (t := 36) rfl (keep_cons (t := 37) rfl (keep_cons (t := 38) rfl (keep_cons (t := 39) rfl (keep_cons (t := 40) rfl (keep_cons (t := 41) rfl (keep_cons (t := 42) rfl (keep_cons (t := 43) rfl (keep_cons (t := 44) rfl (keep_cons (t := 45) rfl (keep_cons (t := 46) rfl (keep_cons (t := 47) rfl (keep_cons (t := 48) rfl (keep_cons (t := 49) rfl (keep_cons (t := 50) rfl (keep_cons (t := 51) rfl (keep_cons (t := 52) rfl (keep_cons (t := 53) rfl (keep_cons (t := 54) rfl (keep_cons (t := 55) rfl (keep_cons (t := 56) rfl (keep_cons (t := 57) rfl (keep_cons (t := 60) rfl (keep_cons (t := 61) rfl (keep_cons (t := 62) rfl (keep_cons (t := 63) rfl keep_nil))))))))))))))))))))))))))))))))))))))))))))))))) ?_
                    refine aw_true rfl ?_
                    refine aw_region ?_
                    refine sr_x rfl (wtd_none rfl) rfl (Rd.x (x_fieldAddr fd28_7 rfl)) ?_
                    refine sr_x rfl (wtd_none rfl) rfl (Rd.x (x_load ag2 rfl (cells_ext (by repeat (first | exact List.mem_cons_self | apply List.mem_cons_of_mem)) (by repeat (first | exact Ext.all _ | exact Ext.done | apply Ext.take | apply Ext.skip))))) ?_
                    refine sr_x rfl (wtd_none rfl) rfl (Rd.x (x_assign rfl)) ?_
                    refine sr_nil ?_
                    show AW _ _ _ _ _ _ _
                    refine aw_region ?_
                    refine sr_x rfl (wtd_none rfl) rfl (Rd.x (x_move rfl)) ?_
                    refine sr_x rfl (wtd_none rfl) rfl (Rd.x (x_add' rfl rfl (i64w (by omega) (by omega)))) ?_
                    refine sr_x rfl (wtd_none rfl) rfl (Rd.x (x_assign rfl)) ?_
                    refine sr_nil ?_
                    show ∃ s', _ ∧ _ ∧ _ ∧ _
                    first | exact ⟨(m + 1, xj.start, xj.fin), ⟨by show m + 1 ≤ _; omega, e2_yes (f' := xj.start) (t' := xj.fin) hxj ⟨by omega, by omega, by omega, by omega⟩ he (by omega) (by omega)⟩, by show _ - (m + 1) < _ - m; omega, (by repeat (first | exact keep_nil | refine keep_cons rfl ?_)), (by first | exact Sub.refl _ | exact Sub.drop (Sub.refl _) | exact Sub.keep (Sub.drop (Sub.refl _)))⟩ | exact ⟨(m + 1, xj.start, t), ⟨by show m + 1 ≤ _; omega, e2_yes (f' := xj.start) (t' := t) hxj ⟨by omega, by omega, by omega, by omega⟩ he (by omega) (by omega)⟩, by show _ - (m + 1) < _ - m; omega, (by repeat (first | exact keep_nil | refine keep_cons rfl ?_)), (by first | exact Sub.refl _ | exact Sub.drop (Sub.refl _) | exact Sub.keep (Sub.drop (Sub.refl _)))⟩ | exact ⟨(m + 1, f, xj.fin), ⟨by show m + 1 ≤ _; omega, e2_yes (f' := f) (t' := xj.fin) hxj ⟨by omega, by omega, by omega, by omega⟩ he (by omega) (by omega)⟩, by show _ - (m + 1) < _ - m; omega, (by repeat (first | exact keep_nil | refine keep_cons rfl ?_)), (by first | exact Sub.refl _ | exact Sub.drop (Sub.refl _) | exact Sub.keep (Sub.drop (Sub.refl _)))⟩ | exact ⟨(m + 1, f, t), ⟨by show m + 1 ≤ _; omega, e2_yes (f' := f) (t' := t) hxj ⟨by omega, by omega, by omega, by omega⟩ he (by omega) (by omega)⟩, by show _ - (m + 1) < _ - m; omega, (by repeat (first | exact keep_nil | refine keep_cons rfl ?_)), (by first | exact Sub.refl _ | exact Sub.drop (Sub.refl _) | exact Sub.keep (Sub.drop (Sub.refl _)))⟩ | exact ⟨(m + 1, _, _), ⟨by show m + 1 ≤ _; omega, e2_no hxj (by unfold okF; omega) he⟩, by show _ - (m + 1) < _ - m; omega, (by repeat (first | exact keep_nil | refine keep_cons rfl ?_)), (by first | exact Sub.refl _ | exact Sub.drop (Sub.refl _) | exact Sub.keep (Sub.drop (Sub.refl _)))⟩
                  · refine sr_nil ?_
                    refine aw_keep (keep_cons (t := 0) rfl (keep_cons (t := 1) rfl (keep_cons (t := 4) rfl (keep_cons (t := 5) rfl (keep_cons (t := 6) rfl (keep_cons (t := 7) rfl (keep_cons (t := 8) rfl (keep_cons (t := 9) rfl (keep_cons (t := 10) rfl (keep_cons (t := 20) rfl (keep_cons (t := 21) rfl (keep_cons (t := 22) rfl (keep_cons (t := 23) rfl (keep_cons (t := 26) rfl (keep_cons (t := 27) rfl (keep_cons (t := 28) rfl (keep_cons (t := 29) rfl (keep_cons (t := 30) rfl (keep_cons (t := 31) rfl (keep_cons (t := 32) rfl (keep_cons (t := 33) rfl (keep_cons (t := 34) rfl (keep_cons (t := 35) rfl (keep_cons (t := 36) rfl (keep_cons (t := 37) rfl (keep_cons (t := 38) rfl (keep_cons (t := 39) rfl (keep_cons (t := 40) rfl (keep_cons (t := 41) rfl (keep_cons (t := 42) rfl (keep_cons (t := 43) rfl (keep_cons (t := 44) rfl (keep_cons (t := 45) rfl (keep_cons (t := 46) rfl (keep_cons (t := 47) rfl (keep_cons (t := 48) rfl (keep_cons (t := 49) rfl (keep_cons (t := 50) rfl (keep_cons (t := 51) rfl (keep_cons (t := 52) rfl (keep_cons (t := 53) rfl (keep_cons (t := 54) rfl (keep_cons (t := 55) rfl (keep_cons (t := 56) rfl (keep_cons (t := 57) rfl (keep_cons (t := 60) rfl (keep_cons (t := 61) rfl (keep_cons (t := 62) rfl (keep_cons (t := 63) rfl keep_nil))))))))))))))))))))))))))))))))))))))))))))))))) ?_
                    refine aw_false rfl ?_
                    refine aw_skip ?_
                    show AW _ _ _ _ _ _ _
                    refine aw_region ?_
                    refine sr_x rfl (wtd_none rfl) rfl (Rd.x (x_move rfl)) ?_
                    refine sr_x rfl (wtd_none rfl) rfl (Rd.x (x_add' rfl rfl (i64w (by omega) (by omega)))) ?_
                    refine sr_x rfl (wtd_none rfl) rfl (Rd.x (x_assign rfl)) ?_
                    refine sr_nil ?_
                    show ∃ s', _ ∧ _ ∧ _ ∧ _
                    first | exact ⟨(m + 1, xj.start, xj.fin), ⟨by show m + 1 ≤ _; omega, e2_yes (f' := xj.start) (t' := xj.fin) hxj ⟨by omega, by omega, by omega, by omega⟩ he (by omega) (by omega)⟩, by show _ - (m + 1) < _ - m; omega, (by repeat (first | exact keep_nil | refine keep_cons rfl ?_)), (by first | exact Sub.refl _ | exact Sub.drop (Sub.refl _) | exact Sub.keep (Sub.drop (Sub.refl _)))⟩ | exact ⟨(m + 1, xj.start, t), ⟨by show m + 1 ≤ _; omega, e2_yes (f' := xj.start) (t' := t) hxj ⟨by omega, by omega, by omega, by omega⟩ he (by omega) (by omega)⟩, by show _ - (m + 1) < _ - m; omega, (by repeat (first | exact keep_nil | refine keep_cons rfl ?_)), (by first | exact Sub.refl _ | exact Sub.drop (Sub.refl _) | exact Sub.keep (Sub.drop (Sub.refl _)))⟩ | exact ⟨(m + 1, f, xj.fin), ⟨by show m + 1 ≤ _; omega, e2_yes (f' := f) (t' := xj.fin) hxj ⟨by omega, by omega, by omega, by omega⟩ he (by omega) (by omega)⟩, by show _ - (m + 1) < _ - m; omega, (by repeat (first | exact keep_nil | refine keep_cons rfl ?_)), (by first | exact Sub.refl _ | exact Sub.drop (Sub.refl _) | exact Sub.keep (Sub.drop (Sub.refl _)))⟩ | exact ⟨(m + 1, f, t), ⟨by show m + 1 ≤ _; omega, e2_yes (f' := f) (t' := t) hxj ⟨by omega, by omega, by omega, by omega⟩ he (by omega) (by omega)⟩, by show _ - (m + 1) < _ - m; omega, (by repeat (first | exact keep_nil | refine keep_cons rfl ?_)), (by first | exact Sub.refl _ | exact Sub.drop (Sub.refl _) | exact Sub.keep (Sub.drop (Sub.refl _)))⟩ | exact ⟨(m + 1, _, _), ⟨by show m + 1 ≤ _; omega, e2_no hxj (by unfold okF; omega) he⟩, by show _ - (m + 1) < _ - m; omega, (by repeat (first | exact keep_nil | refine keep_cons rfl ?_)), (by first | exact Sub.refl _ | exact Sub.drop (Sub.refl _) | exact Sub.keep (Sub.drop (Sub.refl _)))⟩
    · refine sr_nil ?_
      refine aw_keep (keep_cons (t := 0) rfl (keep_cons (t := 1) rfl (keep_cons (t := 4) rfl (keep_cons (t := 5) rfl (keep_cons (t := 6) rfl (keep_cons (t := 7) rfl (keep_cons (t := 8) rfl (keep_cons (t := 9) rfl (keep_cons (t := 20) rfl (keep_cons (t := 21) rfl (keep_cons (t := 22) rfl (keep_cons (t := 23) rfl keep_nil)))))))))))) ?_
      refine aw_false rfl ?_
      refine aw_exit ?_
      show AW _ _ _ _ _ _ _
      refine aw_seq ?_
      refine aw_seq_region ?_
      have em : m = (xs.take 20).length := by omega
      rw [em] at he
      have hz := e2_law he
      first | (have hz2 : f = f0 ∧ t = t0 := by (rw [ho] at hz; rcases hz with ⟨hz, _⟩ | ⟨a', b', hz, rfl, rfl⟩ <;> cases hz; exact ⟨rfl, rfl⟩)) | (have hz2 : n < 1 ∨ 120 < n ∨ f < 0 := by (rcases hbad with h | h | h; exact .inl h; exact .inr (.inl h); rw [h] at hz; rcases hz with ⟨_, hz⟩ | ⟨a', b', hz, _⟩; (exact .inr (.inr (by omega))); cases hz))
      refine sr_x rfl (wtd_none rfl) rfl (Rd.x (x_move rfl)) ?_
      refine sr_cmp rfl (wtd_none rfl) rfl (Rd.x (x_lt rfl rfl)) (fun h27 => ?_) (fun h27 => ?_)
      · refine sr_x rfl (wtd_none rfl) rfl (Rd.x (x_move rfl)) ?_
        refine sr_skip rfl (wtd_no rfl rfl rfl rfl) rfl ?_
        refine sr_skip rfl (wtd_no rfl rfl rfl rfl) rfl ?_
        refine sr_x rfl (wtd_none rfl) rfl (Rd.x (x_pick_t rfl rfl rfl)) ?_
        refine sr_x rfl (wtd_none rfl) rfl (Rd.x (x_move rfl)) ?_
        refine sr_skip rfl (wtd_no rfl rfl rfl rfl) rfl ?_
        refine sr_skip rfl (wtd_no rfl rfl rfl rfl) rfl ?_
        refine sr_x rfl (wtd_none rfl) rfl (Rd.x (x_pick_t rfl rfl rfl)) ?_
        refine sr_nil ?_
        refine aw_keep (keep_cons (t := 0) rfl (keep_cons (t := 4) rfl (keep_cons (t := 5) rfl (keep_cons (t := 6) rfl (keep_cons (t := 7) rfl (keep_cons (t := 8) rfl (keep_cons (t := 75) rfl keep_nil))))))) ?_
        refine aw_true rfl ?_
        refine aw_seq_region ?_
        refine sr_x rfl (wtd_none rfl) rfl (Rd.x (x_loadN ag36 sz36 rfl (cells_ext (by repeat (first | exact List.mem_cons_self | apply List.mem_cons_of_mem)) (by repeat (first | exact Ext.all _ | exact Ext.done | apply Ext.take | apply Ext.skip))) rfl)) ?_
        refine sr_x rfl (wtd_none rfl) rfl (Rd.x (x_build zr36 rfl fl36 (by repeat (first | exact Parts.nil | (apply Parts.cons; rfl))) (by repeat (first | exact Fill.done | (apply Fill.part; rfl; rfl; rfl; focus (repeat (first | exact Spl.done | exact Spl.all rfl | apply Spl.put | apply Spl.skip))))))) ?_
        refine sr_cmp rfl (wtd_none rfl) rfl (Rd.x (x_eqStruct Try.underlying36 ks36 rfl rfl rfl rfl rfl)) (fun h28 => ?_) (fun h28 => ?_)
        · refine sr_x rfl (wtd_none rfl) rfl (Rd.x (x_move rfl)) ?_
          refine sr_x rfl (wtd_yes rfl rfl rfl) rfl (Rd.x (x_move rfl)) ?_
          refine sr_x rfl (wtd_yes rfl rfl rfl) rfl (Rd.x (x_not rfl)) ?_
          refine sr_x rfl (wtd_none rfl) rfl (Rd.x (x_pick_t rfl rfl rfl)) ?_
          refine sr_x rfl (wtd_none rfl) rfl (Rd.x (x_move rfl)) ?_
          refine sr_skip rfl (wtd_no rfl rfl rfl rfl) rfl ?_
          refine sr_x rfl (wtd_none rfl) rfl (Rd.x (x_pick_f rfl rfl rfl)) ?_
          refine sr_x rfl (wtd_none rfl) rfl (Rd.x (x_assign rfl)) ?_
          refine sr_nil ?_
          refine aw_keep (keep_cons (t := 0) rfl (keep_cons (t := 4) rfl (keep_cons (t := 5) rfl (keep_cons (t := 6) rfl (keep_cons (t := 7) rfl (keep_cons (t := 8) rfl keep_nil)))))) ?_
          refine aw_ret ?_
          show ∃ v H2, ResV _ _ _ _ _ _ v ∧ Sub H2 _ ∧ _
          exact ⟨_, _, resV rfl (.cons rfl .nil), (by repeat (first | exact Sub.refl _ | apply Sub.drop)), (by first | rfl | (exfalso; omega) | (exfalso; have hr2 := mt hr.2 (by simp); unfold Chart.Right at hr2; omega) | (exfalso; simp_all [eqC, sEq]; done))⟩
        · refine sr_x rfl (wtd_none rfl) rfl (Rd.x (x_move rfl)) ?_
          refine sr_skip rfl (wtd_no rfl rfl rfl rfl) rfl ?_
          refine sr_skip rfl (wtd_no rfl rfl rfl rfl) rfl ?_
          refine sr_x rfl (wtd_none rfl) rfl (Rd.x (x_pick_f rfl rfl rfl)) ?_
          refine sr_x rfl (wtd_none rfl) rfl (Rd.x (x_move rfl)) ?_
          refine sr_skip rfl (wtd_no rfl rfl rfl rfl) rfl ?_
          refine sr_x rfl (wtd_none rfl) rfl (Rd.x (x_pick_f rfl rfl rfl)) ?_
          refine sr_x rfl (wtd_none rfl) rfl (Rd.x (x_assign rfl)) ?_
          refine sr_nil ?_
          refine aw_keep (keep_cons (t := 0) rfl (keep_cons (t := 4) rfl (keep_cons (t := 5) rfl (keep_cons (t := 6) rfl (keep_cons (t := 7) rfl (keep_cons (t := 8) rfl keep_nil)))))) ?_
          refine aw_ret ?_
          show ∃ v H2, ResV _ _ _ _ _ _ v ∧ Sub H2 _ ∧ _
          exact ⟨_, _, resV rfl (.cons rfl .nil), (by repeat (first | exact Sub.refl _ | apply Sub.drop)), (by first | rfl | (exfalso; omega) | (exfalso; have hr2 := mt hr.2 (by simp); unfold Chart.Right at hr2; omega) | (exfalso; simp_all [eqC, sEq]; done))⟩
      · refine sr_x rfl (wtd_none rfl) rfl (Rd.x (x_move rfl)) ?_
        refine sr_x rfl (wtd_yes rfl rfl rfl) rfl (Rd.x (x_move rfl)) ?_
        refine sr_cmp rfl (wtd_yes rfl rfl rfl) rfl (Rd.x (x_gt rfl rfl)) (fun h29 => ?_) (fun h29 => ?_)
        · refine sr_x rfl (wtd_none rfl) rfl (Rd.x (x_pick_f rfl rfl rfl)) ?_
          refine sr_x rfl (wtd_none rfl) rfl (Rd.x (x_move rfl)) ?_
          refine sr_skip rfl (wtd_no rfl rfl rfl rfl) rfl ?_
          refine sr_skip rfl (wtd_no rfl rfl rfl rfl) rfl ?_
          refine sr_x rfl (wtd_none rfl) rfl (Rd.x (x_pick_t rfl rfl rfl)) ?_
          refine sr_nil ?_
          refine aw_keep (keep_cons (t := 0) rfl (keep_cons (t := 4) rfl (keep_cons (t := 5) rfl (keep_cons (t := 6) rfl (keep_cons (t := 7) rfl (keep_cons (t := 8) rfl (keep_cons (t := 75) rfl keep_nil))))))) ?_
          refine aw_true rfl ?_
          refine aw_seq_region ?_
          refine sr_x rfl (wtd_none rfl) rfl (Rd.x (x_loadN ag36 sz36 rfl (cells_ext (by repeat (first | exact List.mem_cons_self | apply List.mem_cons_of_mem)) (by repeat (first | exact Ext.all _ | exact Ext.done | apply Ext.take | apply Ext.skip))) rfl)) ?_
          refine sr_x rfl (wtd_none rfl) rfl (Rd.x (x_build zr36 rfl fl36 (by repeat (first | exact Parts.nil | (apply Parts.cons; rfl))) (by repeat (first | exact Fill.done | (apply Fill.part; rfl; rfl; rfl; focus (repeat (first | exact Spl.done | exact Spl.all rfl | apply Spl.put | apply Spl.skip))))))) ?_
          refine sr_cmp rfl (wtd_none rfl) rfl (Rd.x (x_eqStruct Try.underlying36 ks36 rfl rfl rfl rfl rfl)) (fun h30 => ?_) (fun h30 => ?_)
          · refine sr_x rfl (wtd_none rfl) rfl (Rd.x (x_move rfl)) ?_
            refine sr_x rfl (wtd_yes rfl rfl rfl) rfl (Rd.x (x_move rfl)) ?_
            refine sr_x rfl (wtd_yes rfl rfl rfl) rfl (Rd.x (x_not rfl)) ?_
            refine sr_x rfl (wtd_none rfl) rfl (Rd.x (x_pick_t rfl rfl rfl)) ?_
            refine sr_x rfl (wtd_none rfl) rfl (Rd.x (x_move rfl)) ?_
            refine sr_skip rfl (wtd_no rfl rfl rfl rfl) rfl ?_
            refine sr_x rfl (wtd_none rfl) rfl (Rd.x (x_pick_f rfl rfl rfl)) ?_
            refine sr_x rfl (wtd_none rfl) rfl (Rd.x (x_assign rfl)) ?_
            refine sr_nil ?_
            refine aw_keep (keep_cons (t := 0) rfl (keep_cons (t := 4) rfl (keep_cons (t := 5) rfl (keep_cons (t := 6) rfl (keep_cons (t := 7) rfl (keep_cons (t := 8) rfl keep_nil)))))) ?_
            refine aw_ret ?_
            show ∃ v H2, ResV _ _ _ _ _ _ v ∧ Sub H2 _ ∧ _
            exact ⟨_, _, resV rfl (.cons rfl .nil), (by repeat (first | exact Sub.refl _ | apply Sub.drop)), (by first | rfl | (exfalso; omega) | (exfalso; have hr2 := mt hr.2 (by simp); unfold Chart.Right at hr2; omega) | (exfalso; simp_all [eqC, sEq]; done))⟩
          · refine sr_x rfl (wtd_none rfl) rfl (Rd.x (x_move rfl)) ?_
            refine sr_skip rfl (wtd_no rfl rfl rfl rfl) rfl ?_
            refine sr_skip rfl (wtd_no rfl rfl rfl rfl) rfl ?_
            refine sr_x rfl (wtd_none rfl) rfl (Rd.x (x_pick_f rfl rfl rfl)) ?_
            refine sr_x rfl (wtd_none rfl) rfl (Rd.x (x_move rfl)) ?_
            refine sr_skip rfl (wtd_no rfl rfl rfl rfl) rfl ?_
            refine sr_x rfl (wtd_none rfl) rfl (Rd.x (x_pick_f rfl rfl rfl)) ?_
            refine sr_x rfl (wtd_none rfl) rfl (Rd.x (x_assign rfl)) ?_
            refine sr_nil ?_
            refine aw_keep (keep_cons (t := 0) rfl (keep_cons (t := 4) rfl (keep_cons (t := 5) rfl (keep_cons (t := 6) rfl (keep_cons (t := 7) rfl (keep_cons (t := 8) rfl keep_nil)))))) ?_
            refine aw_ret ?_
            show ∃ v H2, ResV _ _ _ _ _ _ v ∧ Sub H2 _ ∧ _
            exact ⟨_, _, resV rfl (.cons rfl .nil), (by repeat (first | exact Sub.refl _ | apply Sub.drop)), (by first | rfl | (exfalso; omega) | (exfalso; have hr2 := mt hr.2 (by simp); unfold Chart.Right at hr2; omega) | (exfalso; simp_all [eqC, sEq]; done))⟩
        · refine sr_x rfl (wtd_none rfl) rfl (Rd.x (x_pick_f rfl rfl rfl)) ?_
          refine sr_x rfl (wtd_none rfl) rfl (Rd.x (x_move rfl)) ?_
          refine sr_x rfl (wtd_yes rfl rfl rfl) rfl (Rd.x (x_move rfl)) ?_
          refine sr_cmp rfl (wtd_yes rfl rfl rfl) rfl (Rd.x (x_lt rfl rfl)) (fun h31 => ?_) (fun h31 => ?_)
          · refine sr_x rfl (wtd_none rfl) rfl (Rd.x (x_pick_f rfl rfl rfl)) ?_
            refine sr_nil ?_
            refine aw_keep (keep_cons (t := 0) rfl (keep_cons (t := 4) rfl (keep_cons (t := 5) rfl (keep_cons (t := 6) rfl (keep_cons (t := 7) rfl (keep_cons (t := 8) rfl (keep_cons (t := 75) rfl keep_nil))))))) ?_
            refine aw_true rfl ?_
            refine aw_seq_region ?_
            refine sr_x rfl (wtd_none rfl) rfl (Rd.x (x_loadN ag36 sz36 rfl (cells_ext (by repeat (first | exact List.mem_cons_self | apply List.mem_cons_of_mem)) (by repeat (first | exact Ext.all _ | exact Ext.done | apply Ext.take | apply Ext.skip))) rfl)) ?_
            refine sr_x rfl (wtd_none rfl) rfl (Rd.x (x_build zr36 rfl fl36 (by repeat (first | exact Parts.nil | (apply Parts.cons; rfl))) (by repeat (first | exact Fill.done | (apply Fill.part; rfl; rfl; rfl; focus (repeat (first | exact Spl.done | exact Spl.all rfl | apply Spl.put | apply Spl.skip))))))) ?_
            refine sr_cmp rfl (wtd_none rfl) rfl (Rd.x (x_eqStruct Try.underlying36 ks36 rfl rfl rfl rfl rfl)) (fun h32 => ?_) (fun h32 => ?_)
            · refine sr_x rfl (wtd_none rfl) rfl (Rd.x (x_move rfl)) ?_
              refine sr_x rfl (wtd_yes rfl rfl rfl) rfl (Rd.x (x_move rfl)) ?_
              refine sr_x rfl (wtd_yes rfl rfl rfl) rfl (Rd.x (x_not rfl)) ?_
              refine sr_x rfl (wtd_none rfl) rfl (Rd.x (x_pick_t rfl rfl rfl)) ?_
              refine sr_x rfl (wtd_none rfl) rfl (Rd.x (x_move rfl)) ?_
              refine sr_skip rfl (wtd_no rfl rfl rfl rfl) rfl ?_
              refine sr_x rfl (wtd_none rfl) rfl (Rd.x (x_pick_f rfl rfl rfl)) ?_
              refine sr_x rfl (wtd_none rfl) rfl (Rd.x (x_assign rfl)) ?_
              refine sr_nil ?_
              refine aw_keep (keep_cons (t := 0) rfl (keep_cons (t := 4) rfl (keep_cons (t := 5) rfl (keep_cons (t := 6) rfl (keep_cons (t := 7) rfl (keep_cons (t := 8) rfl keep_nil)))))) ?_
              refine aw_ret ?_
              show ∃ v H2, ResV _ _ _ _ _ _ v ∧ Sub H2 _ ∧ _
              exact ⟨_, _, resV rfl (.cons rfl .nil), (by repeat (first | exact Sub.refl _ | apply Sub.drop)), (by first | rfl | (exfalso; omega) | (exfalso; have hr2 := mt hr.2 (by simp); unfold Chart.Right at hr2; omega) | (exfalso; simp_all [eqC, sEq]; done))⟩
            · refine sr_x rfl (wtd_none rfl) rfl (Rd.x (x_move rfl)) ?_
              refine sr_skip rfl (wtd_no rfl rfl rfl rfl) rfl ?_
              refine sr_skip rfl (wtd_no rfl rfl rfl rfl) rfl ?_
              refine sr_x rfl (wtd_none rfl) rfl (Rd.x (x_pick_f rfl rfl rfl)) ?_
              refine sr_x rfl (wtd_none rfl) rfl (Rd.x (x_move rfl)) ?_
              refine sr_skip rfl (wtd_no rfl rfl rfl rfl) rfl ?_
              refine sr_x rfl (wtd_none rfl) rfl (Rd.x (x_pick_f rfl rfl rfl)) ?_
              refine sr_x rfl (wtd_none rfl) rfl (Rd.x (x_assign rfl)) ?_
              refine sr_nil ?_
              refine aw_keep (keep_cons (t := 0) rfl (keep_cons (t := 4) rfl (keep_cons (t := 5) rfl (keep_cons (t := 6) rfl (keep_cons (t := 7) rfl (keep_cons (t := 8) rfl keep_nil)))))) ?_
              refine aw_ret ?_
              show ∃ v H2, ResV _ _ _ _ _ _ v ∧ Sub H2 _ ∧ _
              exact ⟨_, _, resV rfl (.cons rfl .nil), (by repeat (first | exact Sub.refl _ | apply Sub.drop)), (by first | rfl | (exfalso; omega) | (exfalso; have hr2 := mt hr.2 (by simp); unfold Chart.Right at hr2; omega) | (exfalso; simp_all [eqC, sEq]; done))⟩
          · refine sr_x rfl (wtd_none rfl) rfl (Rd.x (x_pick_f rfl rfl rfl)) ?_
            refine sr_nil ?_
            refine aw_keep (keep_cons (t := 0) rfl (keep_cons (t := 4) rfl (keep_cons (t := 5) rfl (keep_cons (t := 6) rfl (keep_cons (t := 7) rfl (keep_cons (t := 8) rfl (keep_cons (t := 75) rfl keep_nil))))))) ?_
            refine aw_false rfl ?_
            refine aw_skip ?_
            show AW _ _ _ _ _ _ _
            refine aw_seq ?_
            refine aw_seq_region ?_
            refine sr_x rfl (wtd_none rfl) rfl (Rd.x (x_move rfl)) ?_
            refine sr_x rfl (wtd_none rfl) rfl (Rd.x (x_not rfl)) ?_
            refine sr_x rfl (wtd_none rfl) rfl (Rd.x (x_move rfl)) ?_
            refine sr_x rfl (wtd_yes rfl rfl rfl) rfl (Rd.x (x_fieldAddr fd36_0 rfl)) ?_
            refine sr_x rfl (wtd_yes rfl rfl rfl) rfl (Rd.x (x_load ag2 rfl (cells_ext (by repeat (first | exact List.mem_cons_self | apply List.mem_cons_of_mem)) (by repeat (first | exact Ext.all _ | exact Ext.done | apply Ext.take | apply Ext.skip))))) ?_
            refine sr_x rfl (wtd_yes rfl rfl rfl) rfl (Rd.x (x_move rfl)) ?_
            refine sr_cmp rfl (wtd_yes rfl rfl rfl) rfl (Rd.x (x_ne rfl rfl)) (fun h33 => ?_) (fun h33 => ?_)
            · refine sr_x rfl (wtd_none rfl) rfl (Rd.x (x_pick_f rfl rfl rfl)) ?_
              refine sr_x rfl (wtd_none rfl) rfl (Rd.x (x_move rfl)) ?_
              refine sr_skip rfl (wtd_no rfl rfl rfl rfl) rfl ?_
              refine sr_skip rfl (wtd_no rfl rfl rfl rfl) rfl ?_
              refine sr_skip rfl (wtd_no rfl rfl rfl rfl) rfl ?_
              refine sr_skip rfl (wtd_no rfl rfl rfl rfl) rfl ?_
              refine sr_x rfl (wtd_none rfl) rfl (Rd.x (x_pick_t rfl rfl rfl)) ?_
              refine sr_x rfl (wtd_none rfl) rfl (Rd.x (x_move rfl)) ?_
              refine sr_skip rfl (wtd_no rfl rfl rfl rfl) rfl ?_
              refine sr_skip rfl (wtd_no rfl rfl rfl rfl) rfl ?_
              refine sr_skip rfl (wtd_no rfl rfl rfl rfl) rfl ?_
              refine sr_x rfl (wtd_none rfl) rfl (Rd.x (x_pick_t rfl rfl rfl)) ?_
              refine sr_nil ?_
              refine aw_keep (keep_cons (t := 0) rfl (keep_cons (t := 4) rfl (keep_cons (t := 5) rfl (keep_cons (t := 7) rfl (keep_cons (t := 8) rfl (keep_cons (t := 104) rfl keep_nil)))))) ?_
              refine aw_true rfl ?_
              refine aw_seq_region ?_
              refine sr_x rfl (wtd_none rfl) rfl (Rd.x (x_assign rfl)) ?_
              refine sr_nil ?_
              refine aw_keep (keep_cons (t := 0) rfl (keep_cons (t := 4) rfl (keep_cons (t := 5) rfl (keep_cons (t := 7) rfl (keep_cons (t := 8) rfl keep_nil))))) ?_
              refine aw_ret ?_
              show ∃ v H2, ResV _ _ _ _ _ _ v ∧ Sub H2 _ ∧ _
              exact ⟨_, _, resV rfl (.cons rfl .nil), (by repeat (first | exact Sub.refl _ | apply Sub.drop)), (by first | rfl | (exfalso; omega) | (exfalso; have hr2 := mt hr.2 (by simp); unfold Chart.Right at hr2; omega) | (exfalso; simp_all [eqC, sEq]; done))⟩
            · refine sr_x rfl (wtd_none rfl) rfl (Rd.x (x_pick_f rfl rfl rfl)) ?_
              refine sr_x rfl (wtd_none rfl) rfl (Rd.x (x_move rfl)) ?_
              refine sr_x rfl (wtd_yes rfl rfl rfl) rfl (Rd.x (x_fieldAddr fd36_2 rfl)) ?_
              refine sr_x rfl (wtd_yes rfl rfl rfl) rfl (Rd.x (x_load ag3 rfl (cells_ext (by repeat (first | exact List.mem_cons_self | apply List.mem_cons_of_mem)) (by repeat (first | exact Ext.all _ | exact Ext.done | apply Ext.take | apply Ext.skip))))) ?_
              refine sr_x rfl (wtd_yes rfl rfl rfl) rfl (Rd.x (x_move rfl)) ?_
              refine sr_cmp rfl (wtd_yes rfl rfl rfl) rfl (Rd.x (x_ne rfl rfl)) (fun h34 => ?_) (fun h34 => ?_)
              · refine sr_x rfl (wtd_none rfl) rfl (Rd.x (x_pick_f rfl rfl rfl)) ?_
                refine sr_x rfl (wtd_none rfl) rfl (Rd.x (x_move rfl)) ?_
                refine sr_skip rfl (wtd_no rfl rfl rfl rfl) rfl ?_
                refine sr_skip rfl (wtd_no rfl rfl rfl rfl) rfl ?_
                refine sr_skip rfl (wtd_no rfl rfl rfl rfl) rfl ?_
                refine sr_x rfl (wtd_none rfl) rfl (Rd.x (x_pick_t rfl rfl rfl)) ?_
                refine sr_nil ?_
                refine aw_keep (keep_cons (t := 0) rfl (keep_cons (t := 4) rfl (keep_cons (t := 5) rfl (keep_cons (t := 7) rfl (keep_cons (t := 8) rfl (keep_cons (t := 104) rfl keep_nil)))))) ?_
                refine aw_true rfl ?_
                refine aw_seq_region ?_
                refine sr_x rfl (wtd_none rfl) rfl (Rd.x (x_assign rfl)) ?_
                refine sr_nil ?_
                refine aw_keep (keep_cons (t := 0) rfl (keep_cons (t := 4) rfl (keep_cons (t := 5) rfl (keep_cons (t := 7) rfl (keep_cons (t := 8) rfl keep_nil))))) ?_
                refine aw_ret ?_
                show ∃ v H2, ResV _ _ _ _ _ _ v ∧ Sub H2 _ ∧ _
                exact ⟨_, _, resV rfl (.cons rfl .nil), (by repeat (first | exact Sub.refl _ | apply Sub.drop)), (by first | rfl | (exfalso; omega) | (exfalso; have hr2 := mt hr.2 (by simp); unfold Chart.Right at hr2; omega) | (exfalso; simp_all [eqC, sEq]; done))⟩
              · refine sr_x rfl (wtd_none rfl) rfl (Rd.x (x_pick_f rfl rfl rfl)) ?_
                refine sr_x rfl (wtd_none rfl) rfl (Rd.x (x_move rfl)) ?_
                refine sr_x rfl (wtd_yes rfl rfl rfl) rfl (Rd.x (x_loadN ag36 sz36 rfl (cells_ext (by repeat (first | exact List.mem_cons_self | apply List.mem_cons_of_mem)) (by repeat (first | exact Ext.all _ | exact Ext.done | apply Ext.take | apply Ext.skip))) rfl)) ?_
                refine sr_d rfl (wtd_yes rfl rfl rfl) rfl (opS_call rfl rfl rfl rfl cl22 (right22_s _ _)) ?_
                rintro _ _ ⟨⟨c0, rfl, hr⟩, rfl⟩
                cases c0
                · refine sr_x rfl (wtd_yes rfl rfl rfl) rfl (Rd.x (x_not rfl)) ?_
                  refine sr_x rfl (wtd_none rfl) rfl (Rd.x (x_pick_f rfl rfl rfl)) ?_
                  refine sr_nil ?_
                  refine aw_keep (keep_cons (t := 0) rfl (keep_cons (t := 4) rfl (keep_cons (t := 5) rfl (keep_cons (t := 7) rfl (keep_cons (t := 8) rfl (keep_cons (t := 104) rfl keep_nil)))))) ?_
                  refine aw_true rfl ?_
                  refine aw_seq_region ?_
                  refine sr_x rfl (wtd_none rfl) rfl (Rd.x (x_assign rfl)) ?_
                  refine sr_nil ?_
                  refine aw_keep (keep_cons (t := 0) rfl (keep_cons (t := 4) rfl (keep_cons (t := 5) rfl (keep_cons (t := 7) rfl (keep_cons (t := 8) rfl keep_nil))))) ?_
                  refine aw_ret ?_
                  show ∃ v H2, ResV _ _ _ _ _ _ v ∧ Sub H2 _ ∧ _
                  exact ⟨_, _, resV rfl (.cons rfl .nil), (by repeat (first | exact Sub.refl _ | apply Sub.drop)), (by first | rfl | (exfalso; omega) | (exfalso; have hr2 := mt hr.2 (by simp); unfold Chart.Right at hr2; omega) | (exfalso; simp_all [eqC, sEq]; done))⟩
                · refine sr_x rfl (wtd_yes rfl rfl rfl) rfl (Rd.x (x_not rfl)) ?_
                  refine sr_x rfl (wtd_none rfl) rfl (Rd.x (x_pick_f rfl rfl rfl)) ?_
                  refine sr_nil ?_
                  refine aw_keep (keep_cons (t := 0) rfl (keep_cons (t := 4) rfl (keep_cons (t := 5) rfl (keep_cons (t := 7) rfl (keep_cons (t := 8) rfl (keep_cons (t := 104) rfl keep_nil)))))) ?_
                  refine aw_false rfl ?_
                  refine aw_skip ?_
                  show AW _ _ _ _ _ _ _
                  refine aw_seq_region ?_
                  refine sr_x rfl (wtd_none rfl) rfl (Rd.x (x_fieldAddr fd36_1 rfl)) ?_
                  refine sr_x rfl (wtd_none rfl) rfl (Rd.x (x_load ag2 rfl (cells_ext (by repeat (first | exact List.mem_cons_self | apply List.mem_cons_of_mem)) (by repeat (first | exact Ext.all _ | exact Ext.done | apply Ext.take | apply Ext.skip))))) ?_
                  refine sr_x rfl (wtd_none rfl) rfl (Rd.x (x_move rfl)) ?_
                  refine sr_x rfl (wtd_none rfl) rfl (Rd.x (x_mul' rfl rfl (i64w (by omega) (by omega)))) ?_
                  refine sr_x rfl (wtd_none rfl) rfl (Rd.x (x_assign rfl)) ?_
                  refine sr_nil ?_
                  refine aw_keep (keep_cons (t := 0) rfl (keep_cons (t := 4) rfl (keep_cons (t := 5) rfl (keep_cons (t := 7) rfl (keep_cons (t := 8) rfl (keep_cons (t := 11) rfl keep_nil)))))) ?_
                  refine aw_seq ?_
                  refine aw_seq_region ?_
                  refine sr_x rfl (wtd_none rfl) rfl (Rd.x (x_fieldAddr fd36_1 rfl)) ?_
                  refine sr_x rfl (wtd_none rfl) rfl (Rd.x (x_load ag2 rfl (cells_ext (by repeat (first | exact List.mem_cons_self | apply List.mem_cons_of_mem)) (by repeat (first | exact Ext.all _ | exact Ext.done | apply Ext.take | apply Ext.skip))))) ?_
                  refine sr_cmp rfl (wtd_none rfl) rfl (Rd.x (x_eq rfl rfl)) (fun h35 => ?_) (fun h35 => ?_)
                  · refine sr_nil ?_
                    refine aw_keep (keep_cons (t := 0) rfl (keep_cons (t := 4) rfl (keep_cons (t := 5) rfl (keep_cons (t := 7) rfl (keep_cons (t := 8) rfl (keep_cons (t := 11) rfl (keep_cons (t := 111) rfl keep_nil))))))) ?_
                    refine aw_true rfl ?_
                    refine aw_seq_region ?_
                    refine sr_x rfl (wtd_none rfl) rfl (Rd.x (x_fieldAddr fd36_1 rfl)) ?_
                    refine sr_x rfl (wtd_none rfl) rfl (Rd.x (x_load ag2 rfl (cells_ext (by repeat (first | exact List.mem_cons_self | apply List.mem_cons_of_mem)) (by repeat (first | exact Ext.all _ | exact Ext.done | apply Ext.take | apply Ext.skip))))) ?_
                    refine sr_x rfl (wtd_none rfl) rfl (Rd.x (x_sub' rfl rfl (i64w (by omega) (by omega)))) ?_
                    refine sr_x rfl (wtd_none rfl) rfl (Rd.x (x_move rfl)) ?_
                    refine sr_x rfl (wtd_none rfl) rfl (Rd.x (x_mul' rfl rfl (i64w (by omega) (by omega)))) ?_
                    refine sr_x rfl (wtd_none rfl) rfl (Rd.x (x_move rfl)) ?_
                    refine sr_x rfl (wtd_none rfl) rfl (Rd.x (x_move rfl)) ?_
                    refine sr_x rfl (wtd_none rfl) rfl (Rd.x (x_sub' rfl rfl (i64w (by omega) (by omega)))) ?_
                    refine sr_cmp rfl (wtd_none rfl) rfl (Rd.x (x_lt rfl rfl)) (fun h36 => ?_) (fun h36 => ?_)
                    · refine sr_x rfl (wtd_none rfl) rfl (Rd.x (x_move rfl)) ?_
                      refine sr_d rfl (wtd_yes rfl rfl rfl) rfl (opS_call rfl rfl rfl rfl cl16 (awake30_s _)) ?_
                      rintro _ _ ⟨rfl, rfl⟩
                      refine sr_x rfl (wtd_none rfl) rfl (Rd.x (x_pick_t rfl rfl rfl)) ?_
                      refine sr_x rfl (wtd_none rfl) rfl (Rd.x (x_assign rfl)) ?_
                      refine sr_nil ?_
                      refine aw_keep (keep_cons (t := 0) rfl (keep_cons (t := 4) rfl (keep_cons (t := 5) rfl (keep_cons (t := 7) rfl (keep_cons (t := 8) rfl (keep_cons (t := 11) rfl keep_nil)))))) ?_
                      refine aw_ret ?_
                      show ∃ v H2, ResV _ _ _ _ _ _ v ∧ Sub H2 _ ∧ _
                      exact ⟨_, _, resV rfl (.cons rfl .nil), (by repeat (first | exact Sub.refl _ | apply Sub.drop)), (by first | rfl | (exfalso; omega) | (exfalso; have hr2 := mt hr.2 (by simp); unfold Chart.Right at hr2; omega) | (exfalso; simp_all [eqC, sEq]; done))⟩
                    · refine sr_x rfl (wtd_none rfl) rfl (Rd.x (x_move rfl)) ?_
                      refine sr_skip rfl (wtd_no rfl rfl rfl rfl) rfl ?_
                      refine sr_x rfl (wtd_none rfl) rfl (Rd.x (x_pick_f rfl rfl rfl)) ?_
                      refine sr_x rfl (wtd_none rfl) rfl (Rd.x (x_assign rfl)) ?_
                      refine sr_nil ?_
                      refine aw_keep (keep_cons (t := 0) rfl (keep_cons (t := 4) rfl (keep_cons (t := 5) rfl (keep_cons (t := 7) rfl (keep_cons (t := 8) rfl (keep_cons (t := 11) rfl keep_nil)))))) ?_
                      refine aw_ret ?_
                      show ∃ v H2, ResV _ _ _ _ _ _ v ∧ Sub H2 _ ∧ _
                      exact ⟨_, _, resV rfl (.cons rfl .nil), (by repeat (first | exact Sub.refl _ | apply Sub.drop)), (by first | rfl | (exfalso; omega) | (exfalso; have hr2 := mt hr.2 (by simp); unfold Chart.Right at hr2; omega) | (exfalso; simp_all [eqC, sEq]; done))⟩
                  · refine sr_nil ?_
                    refine aw_keep (keep_cons (t := 0) rfl (keep_cons (t := 4) rfl (keep_cons (t := 5) rfl (keep_cons (t := 7) rfl (keep_cons (t := 8) rfl (keep_cons (t := 11) rfl (keep_cons (t := 111) rfl keep_nil))))))) ?_
                    refine aw_false rfl ?_
                    refine aw_skip ?_
                    show AW _ _ _ _ _ _ _
                    refine aw_seq_region ?_
                    refine sr_x rfl (wtd_none rfl) rfl (Rd.x (x_move rfl)) ?_
                    refine sr_x rfl (wtd_none rfl) rfl (Rd.x (x_move rfl)) ?_
                    refine sr_x rfl (wtd_none rfl) rfl (Rd.x (x_add' rfl rfl (i64w (by omega) (by omega)))) ?_
                    refine sr_x rfl (wtd_none rfl) rfl (Rd.x (x_move rfl)) ?_
                    refine sr_cmp rfl (wtd_none rfl) rfl (Rd.x (x_ge rfl rfl)) (fun h37 => ?_) (fun h37 => ?_)
                    · refine sr_x rfl (wtd_none rfl) rfl (Rd.x (x_move rfl)) ?_
                      refine sr_x rfl (wtd_yes rfl rfl rfl) rfl (Rd.x (x_fieldAddr fd36_1 rfl)) ?_
                      refine sr_x rfl (wtd_yes rfl rfl rfl) rfl (Rd.x (x_load ag2 rfl (cells_ext (by repeat (first | exact List.mem_cons_self | apply List.mem_cons_of_mem)) (by repeat (first | exact Ext.all _ | exact Ext.done | apply Ext.take | apply Ext.skip))))) ?_
                      refine sr_x rfl (wtd_yes rfl rfl rfl) rfl (Rd.x (x_sub' rfl rfl (i64w (by omega) (by omega)))) ?_
                      refine sr_x rfl (wtd_yes rfl rfl rfl) rfl (Rd.x (x_move rfl)) ?_
                      refine sr_x rfl (wtd_yes rfl rfl rfl) rfl (Rd.x (x_mul' rfl rfl (i64w (by omega) (by omega)))) ?_
                      refine sr_x rfl (wtd_yes rfl rfl rfl) rfl (Rd.x (x_move rfl)) ?_
                      refine sr_x rfl (wtd_yes rfl rfl rfl) rfl (Rd.x (x_move rfl)) ?_
                      refine sr_x rfl (wtd_yes rfl rfl rfl) rfl (Rd.x (x_sub' rfl rfl (i64w (by omega) (by omega)))) ?_
                      refine sr_cmp rfl (wtd_yes rfl rfl rfl) rfl (Rd.x (x_lt rfl rfl)) (fun h38 => ?_) (fun h38 => ?_)
                      · refine sr_x rfl (wtd_none rfl) rfl (Rd.x (x_pick_t rfl rfl rfl)) ?_
                        refine sr_x rfl (wtd_none rfl) rfl (Rd.x (x_move rfl)) ?_
                        refine sr_d rfl (wtd_yes rfl rfl rfl) rfl (opS_call rfl rfl rfl rfl cl16 (awake30_s _)) ?_
                        rintro _ _ ⟨rfl, rfl⟩
                        refine sr_x rfl (wtd_none rfl) rfl (Rd.x (x_pick_t rfl rfl rfl)) ?_
                        refine sr_x rfl (wtd_none rfl) rfl (Rd.x (x_assign rfl)) ?_
                        refine sr_nil ?_
                        refine aw_keep (keep_cons (t := 4) rfl keep_nil) ?_
                        refine aw_ret ?_
                        show ∃ v H2, ResV _ _ _ _ _ _ v ∧ Sub H2 _ ∧ _
                        exact ⟨_, _, resV rfl (.cons rfl .nil), (by repeat (first | exact Sub.refl _ | apply Sub.drop)), (by first | rfl | (exfalso; omega) | (exfalso; have hr2 := mt hr.2 (by simp); unfold Chart.Right at hr2; omega) | (exfalso; simp_all [eqC, sEq]; done))⟩
                      · refine sr_x rfl (wtd_none rfl) rfl (Rd.x (x_pick_t rfl rfl rfl)) ?_
                        refine sr_x rfl (wtd_none rfl) rfl (Rd.x (x_move rfl)) ?_
                        refine sr_skip rfl (wtd_no rfl rfl rfl rfl) rfl ?_
                        refine sr_x rfl (wtd_none rfl) rfl (Rd.x (x_pick_f rfl rfl rfl)) ?_
                        refine sr_x rfl (wtd_none rfl) rfl (Rd.x (x_assign rfl)) ?_
                        refine sr_nil ?_
                        refine aw_keep (keep_cons (t := 4) rfl keep_nil) ?_
                        refine aw_ret ?_
                        show ∃ v H2, ResV _ _ _ _ _ _ v ∧ Sub H2 _ ∧ _
                        exact ⟨_, _, resV rfl (.cons rfl .nil), (by repeat (first | exact Sub.refl _ | apply Sub.drop)), (by first | rfl | (exfalso; omega) | (exfalso; have hr2 := mt hr.2 (by simp); unfold Chart.Right at hr2; omega) | (exfalso; simp_all [eqC, sEq]; done))⟩
                    · refine sr_x rfl (wtd_none rfl) rfl (Rd.x (x_move rfl)) ?_
                      refine sr_skip rfl (wtd_no rfl rfl rfl rfl) rfl ?_
                      refine sr_skip rfl (wtd_no rfl rfl rfl rfl) rfl ?_
                      refine sr_skip rfl (wtd_no rfl rfl rfl rfl) rfl ?_
                      refine sr_skip rfl (wtd_no rfl rfl rfl rfl) rfl ?_
                      refine sr_skip rfl (wtd_no rfl rfl rfl rfl) rfl ?_
                      refine sr_skip rfl (wtd_no rfl rfl rfl rfl) rfl ?_
                      refine sr_skip rfl (wtd_no rfl rfl rfl rfl) rfl ?_
                      refine sr_skip rfl (wtd_no rfl rfl rfl rfl) rfl ?_
                      refine sr_skip rfl (wtd_no rfl rfl rfl rfl) rfl ?_
                      refine sr_x rfl (wtd_none rfl) rfl (Rd.x (x_pick_f rfl rfl rfl)) ?_
                      refine sr_x rfl (wtd_none rfl) rfl (Rd.x (x_move rfl)) ?_
                      refine sr_skip rfl (wtd_no rfl rfl rfl rfl) rfl ?_
                      refine sr_x rfl (wtd_none rfl) rfl (Rd.x (x_pick_f rfl rfl rfl)) ?_
                      refine sr_x rfl (wtd_none rfl) rfl (Rd.x (x_assign rfl)) ?_
                      refine sr_nil ?_
                      refine aw_keep (keep_cons (t := 4) rfl keep_nil) ?_
                      refine aw_ret ?_
                      show ∃ v H2, ResV _ _ _ _ _ _ v ∧ Sub H2 _ ∧ _
                      exact ⟨_, _, resV rfl (.cons rfl .nil), (by repeat (first | exact Sub.refl _ | apply Sub.drop)), (by first | rfl | (exfalso; omega) | (exfalso; have hr2 := mt hr.2 (by simp); unfold Chart.Right at hr2; omega) | (exfalso; simp_all [eqC, sEq]; done))⟩
end
namespace GanttFitsRow
open Go.ChangeShapes Go.WideShapes Go.ChangeAt Go.RowKit
theorem own : ownKnob Try.prog.godebug = none := by kernel_rfl
theorem laid : laidOutB Try.prog = true := by kernel_rfl
set_option maxRecDepth 100000 in
theorem lifted (os : Os) (started : os.Started) (H : Type) (enc : TypeId × Value → H) :
    ReturnsInHanded {} Try.checked os 5 .any (Rows.ganttFitsSpec.pre6 enc Try.prog Try.f5 Rows.ganttFitsRow.domain false) (Rows.ganttFitsSpec.post enc Try.prog Try.f5 false true false false) := by
  refine law_lifted (C := Try.checked) (tb := 4) own started (by kernel_rfl) Try.func5 (ChangeSpec.witness6 (enc := enc) (C := Try.checked) false ⟨#[], #[.int .i64 0, .slice none 0 0], []⟩ 8 (by kernel_rfl) (by kernel_rfl) (by kernel_rfl) (by kernel_rfl)) rfl Try.underlying4 rfl laid (by kernel_rfl) ?_ ?_
  · intro ds h
    match ds, h with
    | [a0, a1], _ => rfl
  · intro W base args ds ps hval hA hlt hsz
    have hA' : DataW.TrodAll enc Try.prog W 0 (fun _ => true) true [3, 22] args ds ps := hA
    clear hA
    obtain ⟨v0, vs0, d0, ds0, p0, q0, rfl, rfl, rfl, h0, r0⟩ := trodAll_cons hA'
    obtain ⟨v1, vs1, d1, ds1, p1, q1, rfl, rfl, rfl, h1, r1⟩ := trodAll_cons r0
    obtain ⟨rfl, rfl, rfl⟩ := trodAll_nil r1
    obtain ⟨n, rfl, hn⟩ := opn_int Try.underlying3 (hval 0 3 v0 rfl rfl) h0
    obtain ⟨a, cap, xs, rfl, hs, _⟩ := opn_slice Try.underlying22 cells28 (by omega) (fun fuel cs x h => read_Job h) (hval 1 22 v1 rfl rfl) h1
    exact ganttFits_s n a cap xs (hs _)
theorem over : Rows.ganttFitsRow.holds Try.pinned (OpenSpec.ofChange Rows.ganttFitsSpec) :=
  OpenClaim.holds_of_wide 5 Try.f5 rfl rfl rfl rfl rfl rfl rfl ⟨rfl, rfl, rfl, rfl, rfl⟩ rfl rfl rfl rfl rfl (by kernel_rfl) Try.func5 (by kernel_rfl)
    (of_decide_eq_true (by kernel_rfl)) (by unfold Func.isWrapper; first | (rw [if_pos (by decide +kernel)]; kernel_rfl) | (rw [if_neg (by decide +kernel)]; exact ⟨rfl, rfl⟩))
    (fun os started H enc _ => lifted os started H enc)
theorem proved : Rows.GanttFitsSaid := over
#print axioms proved
end GanttFitsRow
end Go.Proofs.Ytlhmoojffopheaa
