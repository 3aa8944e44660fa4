/- Points by age: what the functions of age and sat come to, for any numbers. -/
import Derived.Test.YtlhmoojffopheaaOrd
import Derived.Test.YtlhmoojffopheaaSymStr
namespace Go.Proofs.Ytlhmoojffopheaa
open Go.Proofs.Ytlhmoojffopheaa.Sym
open Go.RowKit (Below)
set_option linter.unusedVariables false
set_option linter.unusedSimpArgs false
structure Rule where
  wait : Int
  unit : Int
  most : Int
  width : Int
  short : Int
  prio : Int
@[reducible] def Rule.cells (j : Rule) : List Value := [.int .i64 j.wait, .int .i64 j.unit, .int .i64 j.most, .int .i64 j.width, .int .i64 j.short, .int .i64 j.prio]
@[reducible] def Rule.v (j : Rule) : Value := .agg (Rule.cells j).toArray
def Rule.Wf (j : Rule) : Prop := IntKind.min .i64 ≤ j.wait ∧ j.wait ≤ IntKind.max .i64 ∧ IntKind.min .i64 ≤ j.unit ∧ j.unit ≤ IntKind.max .i64 ∧ IntKind.min .i64 ≤ j.most ∧ j.most ≤ IntKind.max .i64 ∧ IntKind.min .i64 ≤ j.width ∧ j.width ≤ IntKind.max .i64 ∧ IntKind.min .i64 ≤ j.short ∧ j.short ≤ IntKind.max .i64 ∧ IntKind.min .i64 ≤ j.prio ∧ j.prio ≤ IntKind.max .i64
structure Part where
  wait : Int
  width : Int
  short : Int
  prio : Int
@[reducible] def Part.cells (j : Part) : List Value := [.int .i64 j.wait, .int .i64 j.width, .int .i64 j.short, .int .i64 j.prio]
@[reducible] def Part.v (j : Part) : Value := .agg (Part.cells j).toArray
def Part.Wf (j : Part) : Prop := IntKind.min .i64 ≤ j.wait ∧ j.wait ≤ IntKind.max .i64 ∧ IntKind.min .i64 ≤ j.width ∧ j.width ≤ IntKind.max .i64 ∧ IntKind.min .i64 ≤ j.short ∧ j.short ≤ IntKind.max .i64 ∧ IntKind.min .i64 ≤ j.prio ∧ j.prio ≤ IntKind.max .i64
def Rule.Right (r : Rule) : Prop := (0 ≤ r.wait ∧ r.wait ≤ 1000) ∧ (0 ≤ r.most ∧ r.most ≤ 1000) ∧ (0 ≤ r.width ∧ r.width ≤ 1000) ∧ (0 ≤ r.short ∧ r.short ≤ 1000) ∧ (0 ≤ r.prio ∧ r.prio ≤ 1000) ∧ 1 ≤ r.unit ∧ r.unit ≤ 1099511627776
instance (r : Rule) : Decidable r.Right := by unfold Rule.Right; exact inferInstance
@[reducible] def Rule.five (r : Rule) : List Int := [r.wait, r.most, r.width, r.short, r.prio]
def In1000 (x : Int) : Prop := 0 ≤ x ∧ x ≤ 1000
theorem right_of {r : Rule} {k : Nat} (hk : k = 5) (h : ∀ i, i < k → In1000 (r.five.getD i 0)) (h2 : 1 ≤ r.unit ∧ r.unit ≤ 1099511627776) : r.Right := by
  subst hk
  exact ⟨h 0 (by omega), h 1 (by omega), h 2 (by omega), h 3 (by omega), h 4 (by omega), h2.1, h2.2⟩
theorem right_at {r : Rule} (h : r.Right) {k : Nat} (hk : k < 5) : In1000 (r.five.getD k 0) := by
  obtain ⟨h0, h1, h2, h3, h4, _⟩ := h
  match k, hk with
  | 0, _ => exact h0
  | 1, _ => exact h1
  | 2, _ => exact h2
  | 3, _ => exact h3
  | 4, _ => exact h4
theorem right_step {r : Rule} {k : Nat} (h : ∀ i, i < k → In1000 (r.five.getD i 0)) (hk : In1000 (r.five.getD k 0)) : ∀ i, i < k + 1 → In1000 (r.five.getD i 0) := fun i hi => by
  rcases Nat.lt_or_eq_of_le (Nat.le_of_lt_succ hi) with h1 | h1
  · exact h i h1
  · rw [h1]; exact hk
def halv (v : Int) : Nat := if h : 1 ≤ v ∧ v < 1048576 then 1 + halv (2 * v) else 0
termination_by (1048576 - v).toNat
decreasing_by omega
theorem halv_lt {v : Int} (h0 : 1 ≤ v) (h : v < 1048576) : halv v = 1 + halv (2 * v) := by rw [halv, dif_pos ⟨h0, h⟩]
theorem halv_ge {v : Int} (h : ¬ v < 1048576) : halv v = 0 := by rw [halv, dif_neg (fun q => h q.2)]
theorem halv_bd (n : Nat) : ∀ v : Int, (1048576 - v).toNat ≤ n → halv v ≤ 1048576 - v.toNat := by
  induction n with
  | zero => intro v hv; rw [halv_ge (by omega)]; omega
  | succ n ih =>
    intro v hv
    by_cases h : 1 ≤ v ∧ v < 1048576
    · rw [halv_lt h.1 h.2]
      have := ih (2 * v) (by omega)
      omega
    · rw [halv, dif_neg h]; omega
theorem halv_le (v : Int) : halv v ≤ 1048576 := by have := halv_bd _ v (Nat.le_refl _); omega
def satMul (a b : Int) : Int := if max a 0 ≠ 0 ∧ (1152921504606846976 : Int).tdiv (max a 0) < max b 0 then 1152921504606846976 else max a 0 * max b 0
theorem satMul_bd {a b : Int} (ha : 0 ≤ a) (hb : 0 ≤ b) (h : ¬ (a ≠ 0 ∧ (1152921504606846976 : Int).tdiv a < b)) : 0 ≤ a * b ∧ a * b ≤ 1152921504606846976 := by
  refine ⟨Int.mul_nonneg ha hb, ?_⟩
  by_cases h0 : a = 0
  · subst h0; simp
  · have h1 : b ≤ (1152921504606846976 : Int).tdiv a := by
      rcases Int.lt_or_le ((1152921504606846976 : Int).tdiv a) b with q | q
      · exact absurd ⟨h0, q⟩ h
      · exact q
    rw [Int.tdiv_eq_ediv_of_nonneg (by omega)] at h1
    have h2 := Int.mul_le_mul_of_nonneg_left h1 ha
    have h3 := Int.mul_ediv_self_le (x := 1152921504606846976) h0
    omega
theorem satMul_range (a b : Int) : 0 ≤ satMul a b ∧ satMul a b ≤ 1152921504606846976 := by
  unfold satMul
  split
  · omega
  · next h => exact satMul_bd (by omega) (by omega) h
def satAdd (xs : List Int) : Int := xs.foldl (fun s v => min (s + min (max v 0) 1152921504606846976) 1152921504606846976) 0
theorem satAdd_succ {xs : List Int} {n : Nat} {v : Int} (h : xs[n]? = some v) : satAdd (xs.take (n + 1)) = min (satAdd (xs.take n) + min (max v 0) 1152921504606846976) 1152921504606846976 := by
  unfold satAdd
  rw [List.take_add_one, h]
  simp only [Option.toList_some, List.foldl_append, List.foldl_cons, List.foldl_nil]
theorem satAdd_fold : ∀ (xs : List Int) (s : Int), 0 ≤ s → s ≤ 1152921504606846976 → 0 ≤ xs.foldl (fun s v => min (s + min (max v 0) 1152921504606846976) 1152921504606846976) s ∧ xs.foldl (fun s v => min (s + min (max v 0) 1152921504606846976) 1152921504606846976) s ≤ 1152921504606846976
  | [], s, h1, h2 => ⟨h1, h2⟩
  | x :: xs, s, h1, h2 => by rw [List.foldl_cons]; exact satAdd_fold xs _ (by omega) (by omega)
theorem satAdd_range (xs : List Int) : 0 ≤ satAdd xs ∧ satAdd xs ≤ 1152921504606846976 := satAdd_fold xs 0 (by omega) (by omega)
def ofP (r : Rule) (j : Job) (w : Int) : Part :=
  if r.Right then ⟨min (satMul r.wait ((max w 0).tdiv r.unit)) r.most, r.width * (64 - min (max j.width 0) 64), r.short * (halv (max j.limit 1) : Int), r.prio * min (max j.prio 0) 1000⟩ else ⟨0, 0, 0, 0⟩
theorem mul_bd {a b m n : Int} (ha : 0 ≤ a) (ha2 : a ≤ m) (hb : 0 ≤ b) (hb2 : b ≤ n) : 0 ≤ a * b ∧ a * b ≤ m * n :=
  ⟨Int.mul_nonneg ha hb, Int.mul_le_mul ha2 hb2 hb (by omega)⟩
/-- What the parts may be. -/
def Part.Ok (p : Part) : Prop := (0 ≤ p.wait ∧ p.wait ≤ 1000) ∧ (0 ≤ p.width ∧ p.width ≤ 64000) ∧ (0 ≤ p.short ∧ p.short ≤ 1048576000) ∧ (0 ≤ p.prio ∧ p.prio ≤ 1000000)
theorem ofP_ok (r : Rule) (j : Job) (w : Int) : (ofP r j w).Ok := by
  unfold ofP
  split
  · next h =>
    obtain ⟨h0, h1, h2, h3, h4, h5⟩ := h
    have := satMul_range r.wait ((max w 0).tdiv r.unit)
    have := halv_le (max j.limit 1)
    have g2 := mul_bd h2.1 h2.2 (b := 64 - min (max j.width 0) 64) (n := 64) (by omega) (by omega)
    have g3 := mul_bd h3.1 h3.2 (b := (halv (max j.limit 1) : Int)) (n := 1048576) (by omega) (by omega)
    have g4 := mul_bd h4.1 h4.2 (b := min (max j.prio 0) 1000) (n := 1000) (by omega) (by omega)
    unfold Part.Ok
    dsimp only
    omega
  · unfold Part.Ok; dsimp only; omega
theorem ofP_sum {p : Part} (h : p.Ok) : satAdd [p.wait, p.width, p.short, p.prio] = p.wait + p.width + p.short + p.prio := by
  obtain ⟨h0, h1, h2, h3⟩ := h
  unfold satAdd
  simp only [List.foldl_cons, List.foldl_nil]
  omega
theorem aw31 : satAdd [(ofP ⟨0, 1, 0, 0, 0, 1⟩ ⟨0, 0, 0, 0, 7, 0, 0, 0, 0, 0⟩ 99).wait, (ofP ⟨0, 1, 0, 0, 0, 1⟩ ⟨0, 0, 0, 0, 7, 0, 0, 0, 0, 0⟩ 99).width, (ofP ⟨0, 1, 0, 0, 0, 1⟩ ⟨0, 0, 0, 0, 7, 0, 0, 0, 0, 0⟩ 99).short, (ofP ⟨0, 1, 0, 0, 0, 1⟩ ⟨0, 0, 0, 0, 7, 0, 0, 0, 0, 0⟩ 99).prio] = 7 := by
  rw [ofP_sum (ofP_ok _ _ _)]
  unfold ofP
  rw [if_pos (by unfold Rule.Right; decide)]
  dsimp only
  rw [show satMul 0 ((max 99 0 : Int).tdiv 1) = 0 from by decide]
  omega
theorem five_at (r : Rule) {k : Nat} (hk : k < 5) : (r.five.map (Value.int .i64))[k]? = some (.int .i64 (r.five.getD k 0)) := by
  match k, hk with
  | 0, _ => rfl
  | 1, _ => rfl
  | 2, _ => rfl
  | 3, _ => rfl
  | 4, _ => rfl
theorem part_eq {a b c d : Int} {p : Part} (h1 : a = p.wait) (h2 : b = p.width) (h3 : c = p.short) (h4 : d = p.prio) : pack [Value.agg #[.int .i64 a, .int .i64 b, .int .i64 c, .int .i64 d]] = p.v := by subst h1; subst h2; subst h3; subst h4; rfl
theorem tdiv_bd2 {a n : Int} (ha : 0 ≤ a) (hn : 1 ≤ n) : 0 ≤ a.tdiv n ∧ a.tdiv n ≤ a := by
  rw [Int.tdiv_eq_ediv_of_nonneg ha]
  exact ⟨Int.ediv_nonneg ha (by omega), Int.ediv_le_self _ ha⟩
theorem ag2 : aggOf Try.prog 2 = some false := by kernel_rfl
theorem ag42 : aggOf Try.prog 42 = some true := by kernel_rfl
theorem ag44 : aggOf Try.prog 44 = some true := by kernel_rfl
theorem cells42 : Try.prog.cellsOf 42 = 6 := by kernel_rfl
theorem cl23 : Callable Try.prog 23 := ⟨Try.f23, Try.func23, by kernel_rfl, by kernel_rfl⟩
theorem cl24 : Callable Try.prog 24 := ⟨Try.f24, Try.func24, by kernel_rfl, by kernel_rfl⟩
theorem cl25 : Callable Try.prog 25 := ⟨Try.f25, Try.func25, by kernel_rfl, by kernel_rfl⟩
theorem cl27 : Callable Try.prog 27 := ⟨Try.f27, Try.func27, by kernel_rfl, by kernel_rfl⟩
theorem cl28 : Callable Try.prog 28 := ⟨Try.f28, Try.func28, by kernel_rfl, by kernel_rfl⟩
theorem cl29 : Callable Try.prog 29 := ⟨Try.f29, Try.func29, by kernel_rfl, by kernel_rfl⟩
theorem cl30 : Callable Try.prog 30 := ⟨Try.f30, Try.func30, by kernel_rfl, by kernel_rfl⟩
theorem cl53 : Callable Try.prog 53 := ⟨Try.f53, Try.func53, by kernel_rfl, by kernel_rfl⟩
theorem cl54 : Callable Try.prog 54 := ⟨Try.f54, Try.func54, by kernel_rfl, by kernel_rfl⟩
theorem cl55 : Callable Try.prog 55 := ⟨Try.f55, Try.func55, by kernel_rfl, by kernel_rfl⟩
theorem cl56 : Callable Try.prog 56 := ⟨Try.f56, Try.func56, by kernel_rfl, by kernel_rfl⟩
theorem fd28_2 : fldOf Try.prog 28 2 = some (2, 3, 1) := by kernel_rfl
theorem fd28_3 : fldOf Try.prog 28 3 = some (3, 2, 1) := by kernel_rfl
theorem fd42_0 : fldOf Try.prog 42 0 = some (0, 3, 1) := by kernel_rfl
theorem fd42_1 : fldOf Try.prog 42 1 = some (1, 2, 1) := by kernel_rfl
theorem fd42_2 : fldOf Try.prog 42 2 = some (2, 3, 1) := by kernel_rfl
theorem fd42_3 : fldOf Try.prog 42 3 = some (3, 3, 1) := by kernel_rfl
theorem fd42_4 : fldOf Try.prog 42 4 = some (4, 3, 1) := by kernel_rfl
theorem fd42_5 : fldOf Try.prog 42 5 = some (5, 3, 1) := by kernel_rfl
theorem fd44_0 : fldOf Try.prog 44 0 = some (0, 2, 1) := by kernel_rfl
theorem fd44_1 : fldOf Try.prog 44 1 = some (1, 2, 1) := by kernel_rfl
theorem fd44_2 : fldOf Try.prog 44 2 = some (2, 2, 1) := by kernel_rfl
theorem fd44_3 : fldOf Try.prog 44 3 = some (3, 2, 1) := by kernel_rfl
theorem fl42 : flds Try.prog 42 = some [(0, 1), (1, 1), (2, 1), (3, 1), (4, 1), (5, 1)] := by kernel_rfl
theorem fl44 : flds Try.prog 44 = some [(0, 1), (1, 1), (2, 1), (3, 1)] := by kernel_rfl
theorem sz2 : szOf Try.prog 2 = some 1 := by kernel_rfl
theorem sz42 : szOf Try.prog 42 = some 6 := by kernel_rfl
theorem sz44 : szOf Try.prog 44 = some 4 := by kernel_rfl
theorem zr2 : zeroOf Try.prog 2 = some (.int .i64 0) := by kernel_rfl
theorem zr42 : zeroOf Try.prog 42 = some (.agg #[.int .i64 0, .int .i64 0, .int .i64 0, .int .i64 0, .int .i64 0, .int .i64 0]) := by kernel_rfl
theorem zr44 : zeroOf Try.prog 44 = some (.agg #[.int .i64 0, .int .i64 0, .int .i64 0, .int .i64 0]) := by kernel_rfl
theorem zr83 : zeroOf Try.prog 83 = some (.agg #[.int .i64 0, .int .i64 0, .int .i64 0, .int .i64 0, .int .i64 0]) := by kernel_rfl
section
variable {W0 : World}
set_option maxRecDepth 100000 in
set_option maxHeartbeats 400000 in
theorem plain_s (H : SHeap) : AC Try.prog W0 30 [] H (fun v H' => v = (⟨0, 1, 0, 0, 0, 1⟩ : Rule).v ∧ H' = H) := by
  refine ac_of Try.func30 rfl rfl rfl ?_
  refine aw_seq_region ?_
  refine sr_new rfl (wtd_none rfl) rfl (x_alloc zr42 rfl) ?_
  intro r0_0 hr0_0 gr0_0
  refine sr_nil ?_
  refine aw_keep (keep_cons (t := 0) rfl keep_nil) ?_
  refine aw_seq_region ?_
  refine sr_x rfl (wtd_none rfl) rfl (Rd.x (x_build zr42 rfl fl42 (by repeat (first | exact Parts.nil | (apply Parts.cons; rfl))) (by repeat (first | exact Fill.done | (apply Fill.part; rfl; rfl; rfl; focus (repeat (first | exact Spl.done | exact Spl.all rfl | apply Spl.put | apply Spl.skip))))))) ?_
  refine sr_x0 rfl (wtd_none rfl) (x_store sz42 rfl rfl rfl rfl rfl (by repeat (first | exact Repl.here | apply Repl.there | apply Repl.app)) (by repeat (first | exact Spl.done | exact Spl.all rfl | apply Spl.put | apply Spl.skip))) ?_
  refine sr_nil ?_
  refine aw_keep (keep_cons (t := 0) rfl keep_nil) ?_
  refine aw_ret ?_
  show ∃ v H2, ResV _ _ _ _ _ _ v ∧ Sub H2 _ ∧ _
  exact ⟨_, H, resV rfl (.cons (⟨_, rfl, fun hw => rd_loadVarN ag42 sz42 hw (cells_ext (by repeat (first | exact List.mem_cons_self | apply List.mem_cons_of_mem | apply List.mem_append_right)) (by repeat (first | exact Ext.all _ | exact Ext.done | apply Ext.take | apply Ext.skip))) rfl⟩) .nil), (by repeat (first | exact Sub.refl _ | apply Sub.drop)), ⟨rfl, rfl⟩⟩
set_option maxRecDepth 100000 in
set_option maxHeartbeats 400000 in
theorem right24_s (r : Rule) (H : SHeap) : AC Try.prog W0 24 [r.v] H (fun v H' => (∃ b : Bool, v = .bool b ∧ (b = true ↔ r.Right)) ∧ H' = H) := by
  refine ac_of Try.func24 rfl rfl rfl ?_
  refine aw_seq_region ?_
  refine sr_new rfl (wtd_none rfl) rfl (x_box rfl rfl) ?_
  intro r0_0 hr0_0 gr0_0
  refine sr_x rfl (wtd_none rfl) rfl (Rd.x (x_assign rfl)) ?_
  refine sr_nil ?_
  refine aw_keep (keep_cons (t := 1) rfl (keep_cons (t := 2) rfl keep_nil)) ?_
  refine aw_seq ?_
  refine aw_seq_region ?_
  refine sr_x rfl (wtd_none rfl) rfl (Rd.x (x_fieldAddr fd42_0 rfl)) ?_
  refine sr_x rfl (wtd_none rfl) rfl (Rd.x (x_load ag3 rfl (cells_ext (by repeat (first | exact List.mem_cons_self | apply List.mem_cons_of_mem | apply List.mem_append_right)) (by repeat (first | exact Ext.all _ | exact Ext.done | apply Ext.take | apply Ext.skip))))) ?_
  refine sr_x rfl (wtd_none rfl) rfl (Rd.x (x_fieldAddr fd42_2 rfl)) ?_
  refine sr_x rfl (wtd_none rfl) rfl (Rd.x (x_load ag3 rfl (cells_ext (by repeat (first | exact List.mem_cons_self | apply List.mem_cons_of_mem | apply List.mem_append_right)) (by repeat (first | exact Ext.all _ | exact Ext.done | apply Ext.take | apply Ext.skip))))) ?_
  refine sr_x rfl (wtd_none rfl) rfl (Rd.x (x_fieldAddr fd42_3 rfl)) ?_
  refine sr_x rfl (wtd_none rfl) rfl (Rd.x (x_load ag3 rfl (cells_ext (by repeat (first | exact List.mem_cons_self | apply List.mem_cons_of_mem | apply List.mem_append_right)) (by repeat (first | exact Ext.all _ | exact Ext.done | apply Ext.take | apply Ext.skip))))) ?_
  refine sr_x rfl (wtd_none rfl) rfl (Rd.x (x_fieldAddr fd42_4 rfl)) ?_
  refine sr_x rfl (wtd_none rfl) rfl (Rd.x (x_load ag3 rfl (cells_ext (by repeat (first | exact List.mem_cons_self | apply List.mem_cons_of_mem | apply List.mem_append_right)) (by repeat (first | exact Ext.all _ | exact Ext.done | apply Ext.take | apply Ext.skip))))) ?_
  refine sr_x rfl (wtd_none rfl) rfl (Rd.x (x_fieldAddr fd42_5 rfl)) ?_
  refine sr_x rfl (wtd_none rfl) rfl (Rd.x (x_load ag3 rfl (cells_ext (by repeat (first | exact List.mem_cons_self | apply List.mem_cons_of_mem | apply List.mem_append_right)) (by repeat (first | exact Ext.all _ | exact Ext.done | apply Ext.take | apply Ext.skip))))) ?_
  refine sr_x rfl (wtd_none rfl) rfl (Rd.x (x_buildA zr83 rfl Try.underlying83 sz3 (by repeat (first | exact Parts.nil | (apply Parts.cons; rfl))) (by repeat (first | exact Fill.done | (apply Fill.part; rfl; rfl; rfl; focus (repeat (first | exact Spl.done | exact Spl.all rfl | apply Spl.put | apply Spl.skip))))))) ?_
  refine sr_x rfl (wtd_none rfl) rfl (Rd.x (x_move rfl)) ?_
  refine sr_nil ?_
  refine aw_keep (keep_cons (t := 1) rfl (keep_cons (t := 2) rfl (keep_cons (t := 15) rfl (keep_cons (t := 16) rfl keep_nil)))) ?_
  refine aw_block ?_
  refine aw_loop (ι := Nat) (fun k => k ≤ 5 ∧ ∀ i, i < k → In1000 (r.five.getD i 0)) (fun k => [(1, .pointer (some ⟨r0_0, 0, none⟩)), (15, .agg (r.five.map (Value.int .i64)).toArray), (16, .int .i64 k)]) (fun _ => (r0_0, .cells r.cells.toArray 42 (0, 0)) :: H) (fun k => 5 - k) 0 (⟨Nat.zero_le _, fun _ h => by omega⟩) (by repeat (first | exact keep_nil | refine keep_cons rfl ?_)) (by repeat (first | exact Sub.refl _ | apply Sub.drop)) ?_
  intro k hk
  obtain ⟨hk0, hin⟩ := hk
  refine aw_seq_region ?_
  refine sr_cmp rfl (wtd_none rfl) rfl (Rd.x (x_lt rfl rfl)) (fun h1 => ?_) (fun h1 => ?_)
  · refine sr_nil ?_
    refine aw_keep (keep_cons (t := 1) rfl (keep_cons (t := 15) rfl (keep_cons (t := 16) rfl (keep_cons (t := 17) rfl keep_nil)))) ?_
    refine aw_seq ?_
    refine aw_true rfl ?_
    refine aw_skip ?_
    show AW _ _ _ _ _ _ _
    refine aw_seq ?_
    refine aw_block ?_
    refine aw_seq_region ?_
    refine sr_x rfl (wtd_none rfl) rfl (Rd.x (x_index (v := .int .i64 (r.five.getD k 0)) Try.underlying83 sz3 ag3 rfl rfl (by omega) (by omega) (by simpa using five_at (k := k) r (by omega)))) ?_
    refine sr_x rfl (wtd_none rfl) rfl (Rd.x (x_assign rfl)) ?_
    refine sr_nil ?_
    refine aw_keep (keep_cons (t := 1) rfl (keep_cons (t := 4) rfl (keep_cons (t := 15) rfl (keep_cons (t := 16) rfl (keep_cons (t := 17) rfl (keep_cons (t := 18) rfl keep_nil)))))) ?_
    refine aw_seq_region ?_
    refine sr_x rfl (wtd_none rfl) rfl (Rd.x (x_move rfl)) ?_
    refine sr_cmp rfl (wtd_none rfl) rfl (Rd.x (x_lt rfl rfl)) (fun h2 => ?_) (fun h2 => ?_)
    · refine sr_x rfl (wtd_none rfl) rfl (Rd.x (x_move rfl)) ?_
      refine sr_skip rfl (wtd_no rfl rfl rfl rfl) rfl ?_
      refine sr_skip rfl (wtd_no rfl rfl rfl rfl) rfl ?_
      refine sr_x rfl (wtd_none rfl) rfl (Rd.x (x_pick_t rfl rfl rfl)) ?_
      refine sr_nil ?_
      refine aw_keep (keep_cons (t := 1) rfl (keep_cons (t := 4) rfl (keep_cons (t := 15) rfl (keep_cons (t := 16) rfl (keep_cons (t := 17) rfl (keep_cons (t := 18) rfl (keep_cons (t := 19) rfl (keep_cons (t := 20) rfl (keep_cons (t := 21) rfl (keep_cons (t := 22) rfl (keep_cons (t := 23) rfl (keep_cons (t := 24) rfl keep_nil)))))))))))) ?_
      refine aw_true rfl ?_
      refine aw_seq_region ?_
      refine sr_x rfl (wtd_none rfl) rfl (Rd.x (x_assign rfl)) ?_
      refine sr_nil ?_
      refine aw_keep (keep_cons (t := 1) rfl (keep_cons (t := 2) rfl (keep_cons (t := 4) rfl (keep_cons (t := 15) rfl (keep_cons (t := 16) rfl (keep_cons (t := 17) rfl (keep_cons (t := 18) rfl (keep_cons (t := 19) rfl (keep_cons (t := 20) rfl (keep_cons (t := 21) rfl (keep_cons (t := 22) rfl (keep_cons (t := 23) rfl (keep_cons (t := 24) rfl keep_nil))))))))))))) ?_
      refine aw_ret ?_
      show ∃ v H2, ResV _ _ _ _ _ _ v ∧ Sub H2 _ ∧ _
      exact ⟨_, H, resV rfl (.cons rfl .nil), (by first | exact Sub.refl _ | exact Sub.drop (Sub.refl _)), (by first | exact ⟨⟨false, rfl, ⟨fun h => (nomatch h), fun h => by have hz := right_at h (k := k) (by omega); unfold In1000 at hz; exfalso; omega⟩⟩, rfl⟩ | exact ⟨⟨_, rfl, ⟨fun h => right_of (by omega) hin (by simp at h <;> omega), fun h => by have h5 := h.2.2.2.2.2; simp <;> omega⟩⟩, rfl⟩)⟩
    · refine sr_x rfl (wtd_none rfl) rfl (Rd.x (x_move rfl)) ?_
      refine sr_x rfl (wtd_yes rfl rfl rfl) rfl (Rd.x (x_move rfl)) ?_
      refine sr_cmp rfl (wtd_yes rfl rfl rfl) rfl (Rd.x (x_gt rfl rfl)) (fun h3 => ?_) (fun h3 => ?_)
      · refine sr_x rfl (wtd_none rfl) rfl (Rd.x (x_pick_f rfl rfl rfl)) ?_
        refine sr_nil ?_
        refine aw_keep (keep_cons (t := 1) rfl (keep_cons (t := 4) rfl (keep_cons (t := 15) rfl (keep_cons (t := 16) rfl (keep_cons (t := 17) rfl (keep_cons (t := 18) rfl (keep_cons (t := 19) rfl (keep_cons (t := 20) rfl (keep_cons (t := 21) rfl (keep_cons (t := 22) rfl (keep_cons (t := 23) rfl (keep_cons (t := 24) rfl keep_nil)))))))))))) ?_
        refine aw_true rfl ?_
        refine aw_seq_region ?_
        refine sr_x rfl (wtd_none rfl) rfl (Rd.x (x_assign rfl)) ?_
        refine sr_nil ?_
        refine aw_keep (keep_cons (t := 1) rfl (keep_cons (t := 2) rfl (keep_cons (t := 4) rfl (keep_cons (t := 15) rfl (keep_cons (t := 16) rfl (keep_cons (t := 17) rfl (keep_cons (t := 18) rfl (keep_cons (t := 19) rfl (keep_cons (t := 20) rfl (keep_cons (t := 21) rfl (keep_cons (t := 22) rfl (keep_cons (t := 23) rfl (keep_cons (t := 24) rfl keep_nil))))))))))))) ?_
        refine aw_ret ?_
        show ∃ v H2, ResV _ _ _ _ _ _ v ∧ Sub H2 _ ∧ _
        exact ⟨_, H, resV rfl (.cons rfl .nil), (by first | exact Sub.refl _ | exact Sub.drop (Sub.refl _)), (by first | exact ⟨⟨false, rfl, ⟨fun h => (nomatch h), fun h => by have hz := right_at h (k := k) (by omega); unfold In1000 at hz; exfalso; omega⟩⟩, rfl⟩ | exact ⟨⟨_, rfl, ⟨fun h => right_of (by omega) hin (by simp at h <;> omega), fun h => by have h5 := h.2.2.2.2.2; simp <;> omega⟩⟩, rfl⟩)⟩
      · refine sr_x rfl (wtd_none rfl) rfl (Rd.x (x_pick_f rfl rfl rfl)) ?_
        refine sr_nil ?_
        refine aw_keep (keep_cons (t := 1) rfl (keep_cons (t := 4) rfl (keep_cons (t := 15) rfl (keep_cons (t := 16) rfl (keep_cons (t := 17) rfl (keep_cons (t := 18) rfl (keep_cons (t := 19) rfl (keep_cons (t := 20) rfl (keep_cons (t := 21) rfl (keep_cons (t := 22) rfl (keep_cons (t := 23) rfl (keep_cons (t := 24) rfl keep_nil)))))))))))) ?_
        refine aw_false rfl ?_
        refine aw_skip ?_
        show AW _ _ _ _ _ _ _
        refine aw_region ?_
        refine sr_x rfl (wtd_none rfl) rfl (Rd.x (x_add' rfl rfl (i64w (by omega) (by omega)))) ?_
        refine sr_x rfl (wtd_none rfl) rfl (Rd.x (x_move rfl)) ?_
        refine sr_nil ?_
        show ∃ s', _ ∧ _ ∧ _ ∧ _
        exact ⟨k + 1, ⟨by omega, right_step hin ⟨by omega, by omega⟩⟩, by omega, (by repeat (first | exact keep_nil | refine keep_cons rfl ?_)), (by repeat (first | exact Sub.refl _ | apply Sub.drop))⟩
  · refine sr_nil ?_
    refine aw_keep (keep_cons (t := 1) rfl (keep_cons (t := 15) rfl (keep_cons (t := 16) rfl (keep_cons (t := 17) rfl keep_nil)))) ?_
    refine aw_seq ?_
    refine aw_false rfl ?_
    refine aw_exit ?_
    show AW _ _ _ _ _ _ _
    refine aw_seq_region ?_
    refine sr_x rfl (wtd_none rfl) rfl (Rd.x (x_fieldAddr fd42_1 rfl)) ?_
    refine sr_x rfl (wtd_none rfl) rfl (Rd.x (x_load ag2 rfl (cells_ext (by repeat (first | exact List.mem_cons_self | apply List.mem_cons_of_mem | apply List.mem_append_right)) (by repeat (first | exact Ext.all _ | exact Ext.done | apply Ext.take | apply Ext.skip))))) ?_
    refine sr_cmp rfl (wtd_none rfl) rfl (Rd.x (x_ge rfl rfl)) (fun h4 => ?_) (fun h4 => ?_)
    · refine sr_x rfl (wtd_none rfl) rfl (Rd.x (x_move rfl)) ?_
      refine sr_x rfl (wtd_yes rfl rfl rfl) rfl (Rd.x (x_fieldAddr fd42_1 rfl)) ?_
      refine sr_x rfl (wtd_yes rfl rfl rfl) rfl (Rd.x (x_load ag2 rfl (cells_ext (by repeat (first | exact List.mem_cons_self | apply List.mem_cons_of_mem | apply List.mem_append_right)) (by repeat (first | exact Ext.all _ | exact Ext.done | apply Ext.take | apply Ext.skip))))) ?_
      refine sr_cmp rfl (wtd_yes rfl rfl rfl) rfl (Rd.x (x_le rfl rfl)) (fun h5 => ?_) (fun h5 => ?_)
      · refine sr_x rfl (wtd_none rfl) rfl (Rd.x (x_pick_t rfl rfl rfl)) ?_
        refine sr_x rfl (wtd_none rfl) rfl (Rd.x (x_assign rfl)) ?_
        refine sr_nil ?_
        refine aw_keep (keep_cons (t := 2) rfl keep_nil) ?_
        refine aw_ret ?_
        show ∃ v H2, ResV _ _ _ _ _ _ v ∧ Sub H2 _ ∧ _
        exact ⟨_, H, resV rfl (.cons rfl .nil), (by first | exact Sub.refl _ | exact Sub.drop (Sub.refl _)), (by first | exact ⟨⟨false, rfl, ⟨fun h => (nomatch h), fun h => by have hz := right_at h (k := k) (by omega); unfold In1000 at hz; exfalso; omega⟩⟩, rfl⟩ | exact ⟨⟨_, rfl, ⟨fun h => right_of (by omega) hin (by simp at h <;> omega), fun h => by have h5 := h.2.2.2.2.2; simp <;> omega⟩⟩, rfl⟩)⟩
      · refine sr_x rfl (wtd_none rfl) rfl (Rd.x (x_pick_t rfl rfl rfl)) ?_
        refine sr_x rfl (wtd_none rfl) rfl (Rd.x (x_assign rfl)) ?_
        refine sr_nil ?_
        refine aw_keep (keep_cons (t := 2) rfl keep_nil) ?_
        refine aw_ret ?_
        show ∃ v H2, ResV _ _ _ _ _ _ v ∧ Sub H2 _ ∧ _
        exact ⟨_, H, resV rfl (.cons rfl .nil), (by first | exact Sub.refl _ | exact Sub.drop (Sub.refl _)), (by first | exact ⟨⟨false, rfl, ⟨fun h => (nomatch h), fun h => by have hz := right_at h (k := k) (by omega); unfold In1000 at hz; exfalso; omega⟩⟩, rfl⟩ | exact ⟨⟨_, rfl, ⟨fun h => right_of (by omega) hin (by simp at h <;> omega), fun h => by have h5 := h.2.2.2.2.2; simp <;> omega⟩⟩, rfl⟩)⟩
    · refine sr_x rfl (wtd_none rfl) rfl (Rd.x (x_move rfl)) ?_
      refine sr_skip rfl (wtd_no rfl rfl rfl rfl) rfl ?_
      refine sr_skip rfl (wtd_no rfl rfl rfl rfl) rfl ?_
      refine sr_skip rfl (wtd_no rfl rfl rfl rfl) rfl ?_
      refine sr_x rfl (wtd_none rfl) rfl (Rd.x (x_pick_f rfl rfl rfl)) ?_
      refine sr_x rfl (wtd_none rfl) rfl (Rd.x (x_assign rfl)) ?_
      refine sr_nil ?_
      refine aw_keep (keep_cons (t := 2) rfl keep_nil) ?_
      refine aw_ret ?_
      show ∃ v H2, ResV _ _ _ _ _ _ v ∧ Sub H2 _ ∧ _
      exact ⟨_, H, resV rfl (.cons rfl .nil), (by first | exact Sub.refl _ | exact Sub.drop (Sub.refl _)), (by first | exact ⟨⟨false, rfl, ⟨fun h => (nomatch h), fun h => by have hz := right_at h (k := k) (by omega); unfold In1000 at hz; exfalso; omega⟩⟩, rfl⟩ | exact ⟨⟨_, rfl, ⟨fun h => right_of (by omega) hin (by simp at h <;> omega), fun h => by have h5 := h.2.2.2.2.2; simp <;> omega⟩⟩, rfl⟩)⟩
set_option maxRecDepth 100000 in
set_option maxHeartbeats 400000 in
theorem right25_s (r : Rule) (H : SHeap) : AC Try.prog W0 25 [r.v] H (fun v H' => (∃ b : Bool, v = .bool b ∧ (b = true ↔ r.Right)) ∧ H' = H) := by
  refine ac_of Try.func25 rfl rfl rfl ?_
  refine aw_seq_region ?_
  refine sr_new rfl (wtd_none rfl) rfl (x_box rfl rfl) ?_
  intro r0_0 hr0_0 gr0_0
  refine sr_x rfl (wtd_none rfl) rfl (Rd.x (x_assign rfl)) ?_
  refine sr_nil ?_
  refine aw_keep (keep_cons (t := 1) rfl (keep_cons (t := 2) rfl keep_nil)) ?_
  refine aw_seq_region ?_
  refine sr_x rfl (wtd_none rfl) rfl (Rd.x (x_fieldAddr fd42_0 rfl)) ?_
  refine sr_x rfl (wtd_none rfl) rfl (Rd.x (x_load ag3 rfl (cells_ext (by repeat (first | exact List.mem_cons_self | apply List.mem_cons_of_mem | apply List.mem_append_right)) (by repeat (first | exact Ext.all _ | exact Ext.done | apply Ext.take | apply Ext.skip))))) ?_
  refine sr_x rfl (wtd_none rfl) rfl (Rd.x (x_fieldAddr fd42_2 rfl)) ?_
  refine sr_x rfl (wtd_none rfl) rfl (Rd.x (x_load ag3 rfl (cells_ext (by repeat (first | exact List.mem_cons_self | apply List.mem_cons_of_mem | apply List.mem_append_right)) (by repeat (first | exact Ext.all _ | exact Ext.done | apply Ext.take | apply Ext.skip))))) ?_
  refine sr_x rfl (wtd_none rfl) rfl (Rd.x (x_fieldAddr fd42_3 rfl)) ?_
  refine sr_x rfl (wtd_none rfl) rfl (Rd.x (x_load ag3 rfl (cells_ext (by repeat (first | exact List.mem_cons_self | apply List.mem_cons_of_mem | apply List.mem_append_right)) (by repeat (first | exact Ext.all _ | exact Ext.done | apply Ext.take | apply Ext.skip))))) ?_
  refine sr_x rfl (wtd_none rfl) rfl (Rd.x (x_fieldAddr fd42_4 rfl)) ?_
  refine sr_x rfl (wtd_none rfl) rfl (Rd.x (x_load ag3 rfl (cells_ext (by repeat (first | exact List.mem_cons_self | apply List.mem_cons_of_mem | apply List.mem_append_right)) (by repeat (first | exact Ext.all _ | exact Ext.done | apply Ext.take | apply Ext.skip))))) ?_
  refine sr_x rfl (wtd_none rfl) rfl (Rd.x (x_fieldAddr fd42_5 rfl)) ?_
  refine sr_x rfl (wtd_none rfl) rfl (Rd.x (x_load ag3 rfl (cells_ext (by repeat (first | exact List.mem_cons_self | apply List.mem_cons_of_mem | apply List.mem_append_right)) (by repeat (first | exact Ext.all _ | exact Ext.done | apply Ext.take | apply Ext.skip))))) ?_
  refine sr_new rfl (wtd_none rfl) rfl (x_buildSlice Try.underlying54 sz3 zr3 rfl rfl rfl rfl (by repeat (first | exact Parts.nil | (apply Parts.cons; rfl))) (by repeat (first | exact Fill.done | (apply Fill.part; rfl; rfl; rfl; focus (repeat (first | exact Spl.done | exact Spl.all rfl | apply Spl.put | apply Spl.skip)))))) ?_
  intro r1_10 hr1_10 gr1_10
  refine sr_x rfl (wtd_none rfl) rfl (Rd.x (x_assign rfl)) ?_
  refine sr_nil ?_
  refine aw_keep (keep_cons (t := 1) rfl (keep_cons (t := 2) rfl (keep_cons (t := 3) rfl keep_nil))) ?_
  refine aw_seq ?_
  refine aw_seq_region ?_
  refine sr_x rfl (wtd_none rfl) rfl (Rd.x (x_assign rfl)) ?_
  refine sr_nil ?_
  refine aw_keep (keep_cons (t := 1) rfl (keep_cons (t := 2) rfl (keep_cons (t := 3) rfl (keep_cons (t := 4) rfl keep_nil)))) ?_
  refine aw_block ?_
  refine aw_loop (ι := Nat) (fun k => k ≤ 5 ∧ ∀ i, i < k → In1000 (r.five.getD i 0)) (fun k => [(1, .pointer (some ⟨r0_0, 0, none⟩)), (3, .slice (some ⟨r1_10, 0, none⟩) 5 5), (4, .int .i64 k)]) (fun _ => (r1_10, .cells (r.five.map (Value.int .i64)).toArray 3 (0, 0)) :: (r0_0, .cells r.cells.toArray 42 (0, 0)) :: H) (fun k => 5 - k) 0 (⟨Nat.zero_le _, fun _ h => by omega⟩) (by repeat (first | exact keep_nil | refine keep_cons rfl ?_)) (by repeat (first | exact Sub.refl _ | apply Sub.drop)) ?_
  intro k hk
  obtain ⟨hk0, hin⟩ := hk
  refine aw_seq ?_
  refine aw_seq_region ?_
  refine sr_x rfl (wtd_none rfl) rfl (Rd.x (x_move rfl)) ?_
  refine sr_x rfl (wtd_none rfl) rfl (Rd.x (x_move rfl)) ?_
  refine sr_x rfl (wtd_none rfl) rfl (Rd.x (x_lenSlice Try.underlying54 rfl)) ?_
  refine sr_cmp rfl (wtd_none rfl) rfl (Rd.x (x_lt rfl rfl)) (fun h1 => ?_) (fun h1 => ?_)
  · refine sr_nil ?_
    refine aw_keep (keep_cons (t := 1) rfl (keep_cons (t := 3) rfl (keep_cons (t := 4) rfl (keep_cons (t := 16) rfl (keep_cons (t := 17) rfl (keep_cons (t := 18) rfl (keep_cons (t := 19) rfl keep_nil))))))) ?_
    refine aw_true rfl ?_
    refine aw_skip ?_
    show AW _ _ _ _ _ _ _
    refine aw_seq ?_
    refine aw_block ?_
    refine aw_seq_region ?_
    refine sr_x rfl (wtd_none rfl) rfl (Rd.x (x_move rfl)) ?_
    refine sr_x rfl (wtd_none rfl) rfl (Rd.x (x_move rfl)) ?_
    refine sr_x rfl (wtd_none rfl) rfl (Rd.x (x_indexAddr Try.underlying54 sz3 rfl rfl (by omega) (by omega))) ?_
    refine sr_x rfl (wtd_none rfl) rfl (Rd.x (x_load ag3 rfl (cells_get (cells_ext (vs := r.five.map (Value.int .i64)) (by repeat (first | exact List.mem_cons_self | apply List.mem_cons_of_mem | apply List.mem_append_right)) (by repeat (first | exact Ext.all _ | exact Ext.done | apply Ext.take | apply Ext.skip))) _ (v := .int .i64 (r.five.getD k 0)) (by simpa using five_at (k := k) r (by omega))))) ?_
    refine sr_cmp rfl (wtd_none rfl) rfl (Rd.x (x_lt rfl rfl)) (fun h2 => ?_) (fun h2 => ?_)
    · refine sr_x rfl (wtd_none rfl) rfl (Rd.x (x_move rfl)) ?_
      refine sr_skip rfl (wtd_no rfl rfl rfl rfl) rfl ?_
      refine sr_skip rfl (wtd_no rfl rfl rfl rfl) rfl ?_
      refine sr_skip rfl (wtd_no rfl rfl rfl rfl) rfl ?_
      refine sr_skip rfl (wtd_no rfl rfl rfl rfl) rfl ?_
      refine sr_skip rfl (wtd_no rfl rfl rfl rfl) rfl ?_
      refine sr_x rfl (wtd_none rfl) rfl (Rd.x (x_pick_t rfl rfl rfl)) ?_
      refine sr_nil ?_
      refine aw_keep (keep_cons (t := 1) rfl (keep_cons (t := 3) rfl (keep_cons (t := 4) rfl (keep_cons (t := 16) rfl (keep_cons (t := 17) rfl (keep_cons (t := 18) rfl (keep_cons (t := 19) rfl (keep_cons (t := 22) rfl (keep_cons (t := 23) rfl (keep_cons (t := 24) rfl (keep_cons (t := 25) rfl (keep_cons (t := 26) rfl (keep_cons (t := 27) rfl (keep_cons (t := 28) rfl (keep_cons (t := 29) rfl (keep_cons (t := 30) rfl (keep_cons (t := 31) rfl (keep_cons (t := 32) rfl (keep_cons (t := 33) rfl keep_nil))))))))))))))))))) ?_
      refine aw_true rfl ?_
      refine aw_seq_region ?_
      refine sr_x rfl (wtd_none rfl) rfl (Rd.x (x_assign rfl)) ?_
      refine sr_nil ?_
      refine aw_keep (keep_cons (t := 1) rfl (keep_cons (t := 2) rfl (keep_cons (t := 3) rfl (keep_cons (t := 4) rfl (keep_cons (t := 16) rfl (keep_cons (t := 17) rfl (keep_cons (t := 18) rfl (keep_cons (t := 19) rfl (keep_cons (t := 22) rfl (keep_cons (t := 23) rfl (keep_cons (t := 24) rfl (keep_cons (t := 25) rfl (keep_cons (t := 26) rfl (keep_cons (t := 27) rfl (keep_cons (t := 28) rfl (keep_cons (t := 29) rfl (keep_cons (t := 30) rfl (keep_cons (t := 31) rfl (keep_cons (t := 32) rfl (keep_cons (t := 33) rfl keep_nil)))))))))))))))))))) ?_
      refine aw_ret ?_
      show ∃ v H2, ResV _ _ _ _ _ _ v ∧ Sub H2 _ ∧ _
      exact ⟨_, H, resV rfl (.cons rfl .nil), (by first | exact Sub.refl _ | exact Sub.drop (Sub.refl _) | exact Sub.drop (Sub.drop (Sub.refl _))), (by first | exact ⟨⟨false, rfl, ⟨fun h => (nomatch h), fun h => by have hz := right_at h (k := k) (by omega); unfold In1000 at hz; exfalso; omega⟩⟩, rfl⟩ | exact ⟨⟨_, rfl, ⟨fun h => right_of (by omega) hin (by simp at h <;> omega), fun h => by have h5 := h.2.2.2.2.2; simp <;> omega⟩⟩, rfl⟩)⟩
    · refine sr_x rfl (wtd_none rfl) rfl (Rd.x (x_move rfl)) ?_
      refine sr_x rfl (wtd_yes rfl rfl rfl) rfl (Rd.x (x_move rfl)) ?_
      refine sr_x rfl (wtd_yes rfl rfl rfl) rfl (Rd.x (x_move rfl)) ?_
      refine sr_x rfl (wtd_yes rfl rfl rfl) rfl (Rd.x (x_indexAddr Try.underlying54 sz3 rfl rfl (by omega) (by omega))) ?_
      refine sr_x rfl (wtd_yes rfl rfl rfl) rfl (Rd.x (x_load ag3 rfl (cells_get (cells_ext (vs := r.five.map (Value.int .i64)) (by repeat (first | exact List.mem_cons_self | apply List.mem_cons_of_mem | apply List.mem_append_right)) (by repeat (first | exact Ext.all _ | exact Ext.done | apply Ext.take | apply Ext.skip))) _ (v := .int .i64 (r.five.getD k 0)) (by simpa using five_at (k := k) r (by omega))))) ?_
      refine sr_cmp rfl (wtd_yes rfl rfl rfl) rfl (Rd.x (x_gt rfl rfl)) (fun h3 => ?_) (fun h3 => ?_)
      · refine sr_x rfl (wtd_none rfl) rfl (Rd.x (x_pick_f rfl rfl rfl)) ?_
        refine sr_nil ?_
        refine aw_keep (keep_cons (t := 1) rfl (keep_cons (t := 3) rfl (keep_cons (t := 4) rfl (keep_cons (t := 16) rfl (keep_cons (t := 17) rfl (keep_cons (t := 18) rfl (keep_cons (t := 19) rfl (keep_cons (t := 22) rfl (keep_cons (t := 23) rfl (keep_cons (t := 24) rfl (keep_cons (t := 25) rfl (keep_cons (t := 26) rfl (keep_cons (t := 27) rfl (keep_cons (t := 28) rfl (keep_cons (t := 29) rfl (keep_cons (t := 30) rfl (keep_cons (t := 31) rfl (keep_cons (t := 32) rfl (keep_cons (t := 33) rfl keep_nil))))))))))))))))))) ?_
        refine aw_true rfl ?_
        refine aw_seq_region ?_
        refine sr_x rfl (wtd_none rfl) rfl (Rd.x (x_assign rfl)) ?_
        refine sr_nil ?_
        refine aw_keep (keep_cons (t := 1) rfl (keep_cons (t := 2) rfl (keep_cons (t := 3) rfl (keep_cons (t := 4) rfl (keep_cons (t := 16) rfl (keep_cons (t := 17) rfl (keep_cons (t := 18) rfl (keep_cons (t := 19) rfl (keep_cons (t := 22) rfl (keep_cons (t := 23) rfl (keep_cons (t := 24) rfl (keep_cons (t := 25) rfl (keep_cons (t := 26) rfl (keep_cons (t := 27) rfl (keep_cons (t := 28) rfl (keep_cons (t := 29) rfl (keep_cons (t := 30) rfl (keep_cons (t := 31) rfl (keep_cons (t := 32) rfl (keep_cons (t := 33) rfl keep_nil)))))))))))))))))))) ?_
        refine aw_ret ?_
        show ∃ v H2, ResV _ _ _ _ _ _ v ∧ Sub H2 _ ∧ _
        exact ⟨_, H, resV rfl (.cons rfl .nil), (by first | exact Sub.refl _ | exact Sub.drop (Sub.refl _) | exact Sub.drop (Sub.drop (Sub.refl _))), (by first | exact ⟨⟨false, rfl, ⟨fun h => (nomatch h), fun h => by have hz := right_at h (k := k) (by omega); unfold In1000 at hz; exfalso; omega⟩⟩, rfl⟩ | exact ⟨⟨_, rfl, ⟨fun h => right_of (by omega) hin (by simp at h <;> omega), fun h => by have h5 := h.2.2.2.2.2; simp <;> omega⟩⟩, rfl⟩)⟩
      · refine sr_x rfl (wtd_none rfl) rfl (Rd.x (x_pick_f rfl rfl rfl)) ?_
        refine sr_nil ?_
        refine aw_keep (keep_cons (t := 1) rfl (keep_cons (t := 3) rfl (keep_cons (t := 4) rfl (keep_cons (t := 16) rfl (keep_cons (t := 17) rfl (keep_cons (t := 18) rfl (keep_cons (t := 19) rfl (keep_cons (t := 22) rfl (keep_cons (t := 23) rfl (keep_cons (t := 24) rfl (keep_cons (t := 25) rfl (keep_cons (t := 26) rfl (keep_cons (t := 27) rfl (keep_cons (t := 28) rfl (keep_cons (t := 29) rfl (keep_cons (t := 30) rfl (keep_cons (t := 31) rfl (keep_cons (t := 32) rfl (keep_cons (t := 33) rfl keep_nil))))))))))))))))))) ?_
        refine aw_false rfl ?_
        refine aw_skip ?_
        show AW _ _ _ _ _ _ _
        refine aw_region ?_
        refine sr_x rfl (wtd_none rfl) rfl (Rd.x (x_move rfl)) ?_
        refine sr_x rfl (wtd_none rfl) rfl (Rd.x (x_add' rfl rfl (i64w (by omega) (by omega)))) ?_
        refine sr_x rfl (wtd_none rfl) rfl (Rd.x (x_assign rfl)) ?_
        refine sr_nil ?_
        show ∃ s', _ ∧ _ ∧ _ ∧ _
        exact ⟨k + 1, ⟨by omega, right_step hin ⟨by omega, by omega⟩⟩, by omega, (by repeat (first | exact keep_nil | refine keep_cons rfl ?_)), (by repeat (first | exact Sub.refl _ | apply Sub.drop))⟩
  · refine sr_nil ?_
    refine aw_keep (keep_cons (t := 1) rfl (keep_cons (t := 3) rfl (keep_cons (t := 4) rfl (keep_cons (t := 16) rfl (keep_cons (t := 17) rfl (keep_cons (t := 18) rfl (keep_cons (t := 19) rfl keep_nil))))))) ?_
    refine aw_false rfl ?_
    refine aw_exit ?_
    show AW _ _ _ _ _ _ _
    refine aw_seq_region ?_
    refine sr_x rfl (wtd_none rfl) rfl (Rd.x (x_fieldAddr fd42_1 rfl)) ?_
    refine sr_x rfl (wtd_none rfl) rfl (Rd.x (x_load ag2 rfl (cells_ext (by repeat (first | exact List.mem_cons_self | apply List.mem_cons_of_mem | apply List.mem_append_right)) (by repeat (first | exact Ext.all _ | exact Ext.done | apply Ext.take | apply Ext.skip))))) ?_
    refine sr_cmp rfl (wtd_none rfl) rfl (Rd.x (x_ge rfl rfl)) (fun h4 => ?_) (fun h4 => ?_)
    · refine sr_x rfl (wtd_none rfl) rfl (Rd.x (x_move rfl)) ?_
      refine sr_x rfl (wtd_yes rfl rfl rfl) rfl (Rd.x (x_fieldAddr fd42_1 rfl)) ?_
      refine sr_x rfl (wtd_yes rfl rfl rfl) rfl (Rd.x (x_load ag2 rfl (cells_ext (by repeat (first | exact List.mem_cons_self | apply List.mem_cons_of_mem | apply List.mem_append_right)) (by repeat (first | exact Ext.all _ | exact Ext.done | apply Ext.take | apply Ext.skip))))) ?_
      refine sr_cmp rfl (wtd_yes rfl rfl rfl) rfl (Rd.x (x_le rfl rfl)) (fun h5 => ?_) (fun h5 => ?_)
      · refine sr_x rfl (wtd_none rfl) rfl (Rd.x (x_pick_t rfl rfl rfl)) ?_
        refine sr_x rfl (wtd_none rfl) rfl (Rd.x (x_assign rfl)) ?_
        refine sr_nil ?_
        refine aw_keep (keep_cons (t := 2) rfl keep_nil) ?_
        refine aw_ret ?_
        show ∃ v H2, ResV _ _ _ _ _ _ v ∧ Sub H2 _ ∧ _
        exact ⟨_, H, resV rfl (.cons rfl .nil), (by first | exact Sub.refl _ | exact Sub.drop (Sub.refl _) | exact Sub.drop (Sub.drop (Sub.refl _))), (by first | exact ⟨⟨false, rfl, ⟨fun h => (nomatch h), fun h => by have hz := right_at h (k := k) (by omega); unfold In1000 at hz; exfalso; omega⟩⟩, rfl⟩ | exact ⟨⟨_, rfl, ⟨fun h => right_of (by omega) hin (by simp at h <;> omega), fun h => by have h5 := h.2.2.2.2.2; simp <;> omega⟩⟩, rfl⟩)⟩
      · refine sr_x rfl (wtd_none rfl) rfl (Rd.x (x_pick_t rfl rfl rfl)) ?_
        refine sr_x rfl (wtd_none rfl) rfl (Rd.x (x_assign rfl)) ?_
        refine sr_nil ?_
        refine aw_keep (keep_cons (t := 2) rfl keep_nil) ?_
        refine aw_ret ?_
        show ∃ v H2, ResV _ _ _ _ _ _ v ∧ Sub H2 _ ∧ _
        exact ⟨_, H, resV rfl (.cons rfl .nil), (by first | exact Sub.refl _ | exact Sub.drop (Sub.refl _) | exact Sub.drop (Sub.drop (Sub.refl _))), (by first | exact ⟨⟨false, rfl, ⟨fun h => (nomatch h), fun h => by have hz := right_at h (k := k) (by omega); unfold In1000 at hz; exfalso; omega⟩⟩, rfl⟩ | exact ⟨⟨_, rfl, ⟨fun h => right_of (by omega) hin (by simp at h <;> omega), fun h => by have h5 := h.2.2.2.2.2; simp <;> omega⟩⟩, rfl⟩)⟩
    · refine sr_x rfl (wtd_none rfl) rfl (Rd.x (x_move rfl)) ?_
      refine sr_skip rfl (wtd_no rfl rfl rfl rfl) rfl ?_
      refine sr_skip rfl (wtd_no rfl rfl rfl rfl) rfl ?_
      refine sr_skip rfl (wtd_no rfl rfl rfl rfl) rfl ?_
      refine sr_x rfl (wtd_none rfl) rfl (Rd.x (x_pick_f rfl rfl rfl)) ?_
      refine sr_x rfl (wtd_none rfl) rfl (Rd.x (x_assign rfl)) ?_
      refine sr_nil ?_
      refine aw_keep (keep_cons (t := 2) rfl keep_nil) ?_
      refine aw_ret ?_
      show ∃ v H2, ResV _ _ _ _ _ _ v ∧ Sub H2 _ ∧ _
      exact ⟨_, H, resV rfl (.cons rfl .nil), (by first | exact Sub.refl _ | exact Sub.drop (Sub.refl _) | exact Sub.drop (Sub.drop (Sub.refl _))), (by first | exact ⟨⟨false, rfl, ⟨fun h => (nomatch h), fun h => by have hz := right_at h (k := k) (by omega); unfold In1000 at hz; exfalso; omega⟩⟩, rfl⟩ | exact ⟨⟨_, rfl, ⟨fun h => right_of (by omega) hin (by simp at h <;> omega), fun h => by have h5 := h.2.2.2.2.2; simp <;> omega⟩⟩, rfl⟩)⟩
set_option maxRecDepth 100000 in
set_option maxHeartbeats 400000 in
theorem halves28_s (v : Int) (H : SHeap) (hv : v ≤ 9223372036854775807) : AC Try.prog W0 28 [.int .i64 v] H (fun u H' => u = .int .i64 (halv (max v 1)) ∧ H' = H) := by
  have hb := halv_le (max v 1)
  refine ac_of Try.func28 rfl rfl rfl ?_
  refine aw_seq_region ?_
  refine sr_x rfl (wtd_none rfl) rfl (Rd.x (x_assign rfl)) ?_
  refine sr_nil ?_
  refine aw_keep (keep_cons (t := 0) rfl (keep_cons (t := 2) rfl keep_nil)) ?_
  refine aw_seq_region ?_
  refine sr_x rfl (wtd_none rfl) rfl (Rd.x (x_assign rfl)) ?_
  refine sr_nil ?_
  refine aw_keep (keep_cons (t := 0) rfl (keep_cons (t := 2) rfl (keep_cons (t := 3) rfl keep_nil))) ?_
  refine aw_seq ?_
  refine aw_seq_region ?_
  refine sr_x rfl (wtd_none rfl) rfl (Rd.x (x_move rfl)) ?_
  refine sr_x rfl (wtd_none rfl) rfl (Rd.x (x_max rfl rfl)) ?_
  refine sr_x rfl (wtd_none rfl) rfl (Rd.x (x_assign rfl)) ?_
  refine sr_nil ?_
  refine aw_keep (keep_cons (t := 0) rfl (keep_cons (t := 2) rfl (keep_cons (t := 3) rfl keep_nil))) ?_
  refine aw_block ?_
  refine aw_loop (ι := Nat × Int) (fun s => 1 ≤ s.2 ∧ s.1 + halv s.2 = halv (max v 1)) (fun s => [(0, .int .i64 s.2), (3, .int .i64 s.1)]) (fun _ => H) (fun s => halv s.2) (0, max v 1) (⟨by omega, by simp⟩) (by repeat (first | exact keep_nil | refine keep_cons rfl ?_)) (by repeat (first | exact Sub.refl _ | apply Sub.drop)) ?_
  intro s hs
  obtain ⟨n, u⟩ := s
  obtain ⟨hs1, hs2⟩ := hs
  simp only at hs1 hs2 ⊢
  refine aw_seq ?_
  refine aw_seq_region ?_
  refine sr_x rfl (wtd_none rfl) rfl (Rd.x (x_move rfl)) ?_
  refine sr_cmp rfl (wtd_none rfl) rfl (Rd.x (x_lt rfl rfl)) (fun h1 => ?_) (fun h1 => ?_)
  · refine sr_nil ?_
    refine aw_keep (keep_cons (t := 0) rfl (keep_cons (t := 3) rfl (keep_cons (t := 6) rfl (keep_cons (t := 7) rfl keep_nil)))) ?_
    refine aw_true rfl ?_
    refine aw_skip ?_
    show AW _ _ _ _ _ _ _
    refine aw_seq ?_
    refine aw_block ?_
    refine aw_region ?_
    refine sr_x rfl (wtd_none rfl) rfl (Rd.x (x_move rfl)) ?_
    refine sr_x rfl (wtd_none rfl) rfl (Rd.x (x_add' rfl rfl (i64w (by omega) (by omega)))) ?_
    refine sr_x rfl (wtd_none rfl) rfl (Rd.x (x_assign rfl)) ?_
    refine sr_nil ?_
    show AW _ _ _ _ _ _ _
    refine aw_region ?_
    have hz := halv_lt hs1 (by assumption)
    refine sr_x rfl (wtd_none rfl) rfl (Rd.x (x_move rfl)) ?_
    refine sr_x rfl (wtd_none rfl) rfl (Rd.x (x_cast (x_mul' rfl rfl (i64w (by omega) (by omega))) (congrArg (Value.int .i64) (show u * 2 = 2 * u by omega)))) ?_
    refine sr_x rfl (wtd_none rfl) rfl (Rd.x (x_assign rfl)) ?_
    refine sr_nil ?_
    show ∃ s', _ ∧ _ ∧ _ ∧ _
    (have hz := halv_lt hs1 (by assumption); exact ⟨(n + 1, 2 * u), ⟨by dsimp only; omega, by dsimp only; omega⟩, by dsimp only; omega, (by repeat (first | exact keep_nil | refine keep_cons rfl ?_)), (by repeat (first | exact Sub.refl _ | apply Sub.drop))⟩)
  · refine sr_nil ?_
    refine aw_keep (keep_cons (t := 0) rfl (keep_cons (t := 3) rfl (keep_cons (t := 6) rfl (keep_cons (t := 7) rfl keep_nil)))) ?_
    refine aw_false rfl ?_
    refine aw_exit ?_
    show AW _ _ _ _ _ _ _
    refine aw_seq_region ?_
    refine sr_x rfl (wtd_none rfl) rfl (Rd.x (x_move rfl)) ?_
    refine sr_x rfl (wtd_none rfl) rfl (Rd.x (x_assign rfl)) ?_
    refine sr_nil ?_
    refine aw_keep (keep_cons (t := 2) rfl keep_nil) ?_
    refine aw_ret ?_
    show ∃ v H2, ResV _ _ _ _ _ _ v ∧ Sub H2 _ ∧ _
    exact ⟨_, H, resV rfl (.cons rfl .nil), (by repeat (first | exact Sub.refl _ | apply Sub.drop)), ⟨congrArg (Value.int .i64) (by rw [halv_ge (by assumption)] at hs2; omega), rfl⟩⟩
set_option maxRecDepth 100000 in
set_option maxHeartbeats 400000 in
theorem halves29_s (v : Int) (H : SHeap) (hv : v ≤ 9223372036854775807) : AC Try.prog W0 29 [.int .i64 v] H (fun u H' => u = .int .i64 (halv (max v 1)) ∧ H' = H) := by
  have hb := halv_le (max v 1)
  refine ac_of Try.func29 rfl rfl rfl ?_
  refine aw_seq_region ?_
  refine sr_x rfl (wtd_none rfl) rfl (Rd.x (x_assign rfl)) ?_
  refine sr_nil ?_
  refine aw_keep (keep_cons (t := 0) rfl (keep_cons (t := 2) rfl keep_nil)) ?_
  refine aw_seq ?_
  refine aw_seq_region ?_
  refine sr_x rfl (wtd_none rfl) rfl (Rd.x (x_move rfl)) ?_
  refine sr_cmp rfl (wtd_none rfl) rfl (Rd.x (x_lt rfl rfl)) (fun h1 => ?_) (fun h1 => ?_)
  · refine sr_nil ?_
    refine aw_keep (keep_cons (t := 0) rfl (keep_cons (t := 2) rfl (keep_cons (t := 5) rfl keep_nil))) ?_
    refine aw_true rfl ?_
    refine aw_region ?_
    refine sr_x rfl (wtd_none rfl) rfl (Rd.x (x_assign rfl)) ?_
    refine sr_nil ?_
    show AW _ _ _ _ _ _ _
    refine aw_seq_region ?_
    refine sr_x rfl (wtd_none rfl) rfl (Rd.x (x_assign rfl)) ?_
    refine sr_nil ?_
    refine aw_keep (keep_cons (t := 0) rfl (keep_cons (t := 2) rfl (keep_cons (t := 3) rfl keep_nil))) ?_
    refine aw_seq ?_
    refine aw_block ?_
    first | refine aw_keep (keep_cons (t := 0) (v := .int .i64 (max v 1)) (congrArg (fun x => some (Value.int .i64 x)) (show (1 : Int) = max v 1 by omega)) (keep_cons (t := 3) rfl keep_nil)) ?_ | refine aw_keep (keep_cons (t := 0) (v := .int .i64 (max v 1)) (congrArg (fun x => some (Value.int .i64 x)) (show v = max v 1 by omega)) (keep_cons (t := 3) rfl keep_nil)) ?_
    refine aw_loop (ι := Nat × Int) (fun s => 1 ≤ s.2 ∧ s.1 + halv s.2 = halv (max v 1)) (fun s => [(0, .int .i64 s.2), (3, .int .i64 s.1)]) (fun _ => H) (fun s => halv s.2) (0, max v 1) (⟨by dsimp only; omega, by simp⟩) (by repeat (first | exact keep_nil | refine keep_cons rfl ?_)) (by repeat (first | exact Sub.refl _ | apply Sub.drop)) ?_
    intro s hs
    obtain ⟨n, u⟩ := s
    obtain ⟨hs1, hs2⟩ := hs
    simp only at hs1 hs2 ⊢
    refine aw_seq ?_
    refine aw_seq_region ?_
    refine sr_x rfl (wtd_none rfl) rfl (Rd.x (x_move rfl)) ?_
    refine sr_cmp rfl (wtd_none rfl) rfl (Rd.x (x_lt rfl rfl)) (fun h2 => ?_) (fun h2 => ?_)
    · refine sr_nil ?_
      refine aw_keep (keep_cons (t := 0) rfl (keep_cons (t := 3) rfl (keep_cons (t := 6) rfl (keep_cons (t := 7) rfl keep_nil)))) ?_
      refine aw_true rfl ?_
      refine aw_skip ?_
      show AW _ _ _ _ _ _ _
      refine aw_block ?_
      refine aw_seq_region ?_
      have hz := halv_lt hs1 (by assumption)
      refine sr_x rfl (wtd_none rfl) rfl (Rd.x (x_move rfl)) ?_
      refine sr_x rfl (wtd_none rfl) rfl (Rd.x (x_mul' rfl rfl (i64w (by omega) (by omega)))) ?_
      refine sr_x rfl (wtd_none rfl) rfl (Rd.x (x_assign rfl)) ?_
      refine sr_nil ?_
      refine aw_keep (keep_cons (t := 0) rfl (keep_cons (t := 3) rfl (keep_cons (t := 6) rfl (keep_cons (t := 7) rfl (keep_cons (t := 8) rfl (keep_cons (t := 9) rfl keep_nil)))))) ?_
      refine aw_region ?_
      refine sr_x rfl (wtd_none rfl) rfl (Rd.x (x_move rfl)) ?_
      refine sr_x rfl (wtd_none rfl) rfl (Rd.x (x_add' rfl rfl (i64w (by omega) (by omega)))) ?_
      refine sr_x rfl (wtd_none rfl) rfl (Rd.x (x_assign rfl)) ?_
      refine sr_nil ?_
      show ∃ s', _ ∧ _ ∧ _ ∧ _
      (have hz := halv_lt hs1 (by assumption); exact ⟨(n + 1, 2 * u), ⟨by dsimp only; omega, by dsimp only; omega⟩, by dsimp only; omega, (by repeat (first | exact keep_nil | refine keep_cons rfl ?_)), (by repeat (first | exact Sub.refl _ | apply Sub.drop))⟩)
    · refine sr_nil ?_
      refine aw_keep (keep_cons (t := 0) rfl (keep_cons (t := 3) rfl (keep_cons (t := 6) rfl (keep_cons (t := 7) rfl keep_nil)))) ?_
      refine aw_false rfl ?_
      refine aw_exit ?_
      show AW _ _ _ _ _ _ _
      refine aw_seq_region ?_
      refine sr_x rfl (wtd_none rfl) rfl (Rd.x (x_move rfl)) ?_
      refine sr_x rfl (wtd_none rfl) rfl (Rd.x (x_assign rfl)) ?_
      refine sr_nil ?_
      refine aw_keep (keep_cons (t := 2) rfl keep_nil) ?_
      refine aw_ret ?_
      show ∃ v H2, ResV _ _ _ _ _ _ v ∧ Sub H2 _ ∧ _
      exact ⟨_, H, resV rfl (.cons rfl .nil), (by repeat (first | exact Sub.refl _ | apply Sub.drop)), ⟨congrArg (Value.int .i64) (by rw [halv_ge (by assumption)] at hs2; omega), rfl⟩⟩
  · refine sr_nil ?_
    refine aw_keep (keep_cons (t := 0) rfl (keep_cons (t := 2) rfl (keep_cons (t := 5) rfl keep_nil))) ?_
    refine aw_false rfl ?_
    refine aw_skip ?_
    show AW _ _ _ _ _ _ _
    refine aw_seq_region ?_
    refine sr_x rfl (wtd_none rfl) rfl (Rd.x (x_assign rfl)) ?_
    refine sr_nil ?_
    refine aw_keep (keep_cons (t := 0) rfl (keep_cons (t := 2) rfl (keep_cons (t := 3) rfl keep_nil))) ?_
    refine aw_seq ?_
    refine aw_block ?_
    first | refine aw_keep (keep_cons (t := 0) (v := .int .i64 (max v 1)) (congrArg (fun x => some (Value.int .i64 x)) (show (1 : Int) = max v 1 by omega)) (keep_cons (t := 3) rfl keep_nil)) ?_ | refine aw_keep (keep_cons (t := 0) (v := .int .i64 (max v 1)) (congrArg (fun x => some (Value.int .i64 x)) (show v = max v 1 by omega)) (keep_cons (t := 3) rfl keep_nil)) ?_
    refine aw_loop (ι := Nat × Int) (fun s => 1 ≤ s.2 ∧ s.1 + halv s.2 = halv (max v 1)) (fun s => [(0, .int .i64 s.2), (3, .int .i64 s.1)]) (fun _ => H) (fun s => halv s.2) (0, max v 1) (⟨by dsimp only; omega, by simp⟩) (by repeat (first | exact keep_nil | refine keep_cons rfl ?_)) (by repeat (first | exact Sub.refl _ | apply Sub.drop)) ?_
    intro s hs
    obtain ⟨n, u⟩ := s
    obtain ⟨hs1, hs2⟩ := hs
    simp only at hs1 hs2 ⊢
    refine aw_seq ?_
    refine aw_seq_region ?_
    refine sr_x rfl (wtd_none rfl) rfl (Rd.x (x_move rfl)) ?_
    refine sr_cmp rfl (wtd_none rfl) rfl (Rd.x (x_lt rfl rfl)) (fun h3 => ?_) (fun h3 => ?_)
    · refine sr_nil ?_
      refine aw_keep (keep_cons (t := 0) rfl (keep_cons (t := 3) rfl (keep_cons (t := 6) rfl (keep_cons (t := 7) rfl keep_nil)))) ?_
      refine aw_true rfl ?_
      refine aw_skip ?_
      show AW _ _ _ _ _ _ _
      refine aw_block ?_
      refine aw_seq_region ?_
      have hz := halv_lt hs1 (by assumption)
      refine sr_x rfl (wtd_none rfl) rfl (Rd.x (x_move rfl)) ?_
      refine sr_x rfl (wtd_none rfl) rfl (Rd.x (x_mul' rfl rfl (i64w (by omega) (by omega)))) ?_
      refine sr_x rfl (wtd_none rfl) rfl (Rd.x (x_assign rfl)) ?_
      refine sr_nil ?_
      refine aw_keep (keep_cons (t := 0) rfl (keep_cons (t := 3) rfl (keep_cons (t := 6) rfl (keep_cons (t := 7) rfl (keep_cons (t := 8) rfl (keep_cons (t := 9) rfl keep_nil)))))) ?_
      refine aw_region ?_
      refine sr_x rfl (wtd_none rfl) rfl (Rd.x (x_move rfl)) ?_
      refine sr_x rfl (wtd_none rfl) rfl (Rd.x (x_add' rfl rfl (i64w (by omega) (by omega)))) ?_
      refine sr_x rfl (wtd_none rfl) rfl (Rd.x (x_assign rfl)) ?_
      refine sr_nil ?_
      show ∃ s', _ ∧ _ ∧ _ ∧ _
      (have hz := halv_lt hs1 (by assumption); exact ⟨(n + 1, 2 * u), ⟨by dsimp only; omega, by dsimp only; omega⟩, by dsimp only; omega, (by repeat (first | exact keep_nil | refine keep_cons rfl ?_)), (by repeat (first | exact Sub.refl _ | apply Sub.drop))⟩)
    · refine sr_nil ?_
      refine aw_keep (keep_cons (t := 0) rfl (keep_cons (t := 3) rfl (keep_cons (t := 6) rfl (keep_cons (t := 7) rfl keep_nil)))) ?_
      refine aw_false rfl ?_
      refine aw_exit ?_
      show AW _ _ _ _ _ _ _
      refine aw_seq_region ?_
      refine sr_x rfl (wtd_none rfl) rfl (Rd.x (x_move rfl)) ?_
      refine sr_x rfl (wtd_none rfl) rfl (Rd.x (x_assign rfl)) ?_
      refine sr_nil ?_
      refine aw_keep (keep_cons (t := 2) rfl keep_nil) ?_
      refine aw_ret ?_
      show ∃ v H2, ResV _ _ _ _ _ _ v ∧ Sub H2 _ ∧ _
      exact ⟨_, H, resV rfl (.cons rfl .nil), (by repeat (first | exact Sub.refl _ | apply Sub.drop)), ⟨congrArg (Value.int .i64) (by rw [halv_ge (by assumption)] at hs2; omega), rfl⟩⟩
set_option maxRecDepth 100000 in
set_option maxHeartbeats 400000 in
theorem satMul_s (a b : Int) (H : SHeap) : AC Try.prog W0 53 [.int .i64 a, .int .i64 b] H (fun v H' => v = .int .i64 (satMul a b) ∧ H' = H) := by
  refine ac_of Try.func53 rfl rfl rfl ?_
  refine aw_seq_region ?_
  refine sr_x rfl (wtd_none rfl) rfl (Rd.x (x_assign rfl)) ?_
  refine sr_nil ?_
  refine aw_keep (keep_cons (t := 0) rfl (keep_cons (t := 1) rfl (keep_cons (t := 4) rfl keep_nil))) ?_
  refine aw_seq_region ?_
  refine sr_x rfl (wtd_none rfl) rfl (Rd.x (x_move rfl)) ?_
  refine sr_x rfl (wtd_none rfl) rfl (Rd.x (x_max rfl rfl)) ?_
  refine sr_x rfl (wtd_none rfl) rfl (Rd.x (x_move rfl)) ?_
  refine sr_x rfl (wtd_none rfl) rfl (Rd.x (x_max rfl rfl)) ?_
  refine sr_x rfl (wtd_none rfl) rfl (Rd.x (x_assign rfl)) ?_
  refine sr_x rfl (wtd_none rfl) rfl (Rd.x (x_assign rfl)) ?_
  refine sr_nil ?_
  refine aw_keep (keep_cons (t := 0) rfl (keep_cons (t := 1) rfl (keep_cons (t := 4) rfl keep_nil))) ?_
  refine aw_seq ?_
  refine aw_seq_region ?_
  refine sr_x rfl (wtd_none rfl) rfl (Rd.x (x_move rfl)) ?_
  refine sr_cmp rfl (wtd_none rfl) rfl (Rd.x (x_ne rfl rfl)) (fun h1 => ?_) (fun h1 => ?_)
  · refine sr_x rfl (wtd_none rfl) rfl (Rd.x (x_move rfl)) ?_
    refine sr_x rfl (wtd_yes rfl rfl rfl) rfl (Rd.x (x_move rfl)) ?_
    refine sr_x rfl (wtd_yes rfl rfl rfl) rfl (Rd.x (x_move rfl)) ?_
    first | have hq := tdiv_bd2 (a := 1152921504606846976) (n := max a 0) (by omega) (by omega) | skip
    refine sr_x rfl (wtd_yes rfl rfl rfl) rfl (Rd.x (x_quo' rfl rfl (by omega) (i64w (by omega) (by omega)))) ?_
    refine sr_cmp rfl (wtd_yes rfl rfl rfl) rfl (Rd.x (x_gt rfl rfl)) (fun h2 => ?_) (fun h2 => ?_)
    · refine sr_x rfl (wtd_none rfl) rfl (Rd.x (x_pick_t rfl rfl rfl)) ?_
      refine sr_nil ?_
      refine aw_keep (keep_cons (t := 0) rfl (keep_cons (t := 1) rfl (keep_cons (t := 4) rfl (keep_cons (t := 16) rfl keep_nil)))) ?_
      refine aw_true rfl ?_
      refine aw_seq_region ?_
      refine sr_x rfl (wtd_none rfl) rfl (Rd.x (x_assign rfl)) ?_
      refine sr_nil ?_
      refine aw_keep (keep_cons (t := 0) rfl (keep_cons (t := 1) rfl (keep_cons (t := 4) rfl keep_nil))) ?_
      refine aw_ret ?_
      show ∃ v H2, ResV _ _ _ _ _ _ v ∧ Sub H2 _ ∧ _
      exact ⟨_, H, resV rfl (.cons rfl .nil), (by repeat (first | exact Sub.refl _ | apply Sub.drop)), ⟨congrArg (Value.int .i64) (by unfold satMul; first | rw [if_pos (by omega)] | rw [if_neg (by omega)]), rfl⟩⟩
    · refine sr_x rfl (wtd_none rfl) rfl (Rd.x (x_pick_t rfl rfl rfl)) ?_
      refine sr_nil ?_
      refine aw_keep (keep_cons (t := 0) rfl (keep_cons (t := 1) rfl (keep_cons (t := 4) rfl (keep_cons (t := 16) rfl keep_nil)))) ?_
      refine aw_false rfl ?_
      refine aw_skip ?_
      show AW _ _ _ _ _ _ _
      refine aw_seq_region ?_
      refine sr_x rfl (wtd_none rfl) rfl (Rd.x (x_move rfl)) ?_
      refine sr_x rfl (wtd_none rfl) rfl (Rd.x (x_move rfl)) ?_
      have hm := satMul_bd (a := max a 0) (b := max b 0) (by omega) (by omega) (by omega)
      refine sr_x rfl (wtd_none rfl) rfl (Rd.x (x_mul' rfl rfl (i64w (by omega) (by omega)))) ?_
      refine sr_x rfl (wtd_none rfl) rfl (Rd.x (x_assign rfl)) ?_
      refine sr_nil ?_
      refine aw_keep (keep_cons (t := 4) rfl keep_nil) ?_
      refine aw_ret ?_
      show ∃ v H2, ResV _ _ _ _ _ _ v ∧ Sub H2 _ ∧ _
      exact ⟨_, H, resV rfl (.cons rfl .nil), (by repeat (first | exact Sub.refl _ | apply Sub.drop)), ⟨congrArg (Value.int .i64) (by unfold satMul; first | rw [if_pos (by omega)] | rw [if_neg (by omega)]), rfl⟩⟩
  · refine sr_x rfl (wtd_none rfl) rfl (Rd.x (x_move rfl)) ?_
    refine sr_skip rfl (wtd_no rfl rfl rfl rfl) rfl ?_
    refine sr_skip rfl (wtd_no rfl rfl rfl rfl) rfl ?_
    first | have hq := tdiv_bd2 (a := 1152921504606846976) (n := max a 0) (by omega) (by omega) | skip
    refine sr_skip rfl (wtd_no rfl rfl rfl rfl) rfl ?_
    refine sr_skip rfl (wtd_no rfl rfl rfl rfl) rfl ?_
    refine sr_x rfl (wtd_none rfl) rfl (Rd.x (x_pick_f rfl rfl rfl)) ?_
    refine sr_nil ?_
    refine aw_keep (keep_cons (t := 0) rfl (keep_cons (t := 1) rfl (keep_cons (t := 4) rfl (keep_cons (t := 16) rfl keep_nil)))) ?_
    refine aw_false rfl ?_
    refine aw_skip ?_
    show AW _ _ _ _ _ _ _
    refine aw_seq_region ?_
    refine sr_x rfl (wtd_none rfl) rfl (Rd.x (x_move rfl)) ?_
    refine sr_x rfl (wtd_none rfl) rfl (Rd.x (x_move rfl)) ?_
    have hm := satMul_bd (a := max a 0) (b := max b 0) (by omega) (by omega) (by omega)
    refine sr_x rfl (wtd_none rfl) rfl (Rd.x (x_mul' rfl rfl (i64w (by omega) (by omega)))) ?_
    refine sr_x rfl (wtd_none rfl) rfl (Rd.x (x_assign rfl)) ?_
    refine sr_nil ?_
    refine aw_keep (keep_cons (t := 4) rfl keep_nil) ?_
    refine aw_ret ?_
    show ∃ v H2, ResV _ _ _ _ _ _ v ∧ Sub H2 _ ∧ _
    exact ⟨_, H, resV rfl (.cons rfl .nil), (by repeat (first | exact Sub.refl _ | apply Sub.drop)), ⟨congrArg (Value.int .i64) (by unfold satMul; first | rw [if_pos (by omega)] | rw [if_neg (by omega)]), rfl⟩⟩
set_option maxRecDepth 100000 in
set_option maxHeartbeats 400000 in
theorem hold_s (a m : Int) (H : SHeap) (hm : 0 ≤ m) : AC Try.prog W0 54 [.int .i64 a, .int .i64 m] H (fun v H' => v = .int .i64 (min (max a 0) m) ∧ H' = H) := by
  refine ac_of Try.func54 rfl rfl rfl ?_
  refine aw_seq_region ?_
  refine sr_x rfl (wtd_none rfl) rfl (Rd.x (x_assign rfl)) ?_
  refine sr_nil ?_
  refine aw_keep (keep_cons (t := 0) rfl (keep_cons (t := 1) rfl (keep_cons (t := 4) rfl keep_nil))) ?_
  refine aw_seq ?_
  refine aw_seq_region ?_
  refine sr_x rfl (wtd_none rfl) rfl (Rd.x (x_move rfl)) ?_
  refine sr_cmp rfl (wtd_none rfl) rfl (Rd.x (x_lt rfl rfl)) (fun h1 => ?_) (fun h1 => ?_)
  · refine sr_nil ?_
    refine aw_keep (keep_cons (t := 0) rfl (keep_cons (t := 1) rfl (keep_cons (t := 4) rfl (keep_cons (t := 6) rfl keep_nil)))) ?_
    refine aw_true rfl ?_
    refine aw_seq_region ?_
    refine sr_x rfl (wtd_none rfl) rfl (Rd.x (x_assign rfl)) ?_
    refine sr_nil ?_
    refine aw_keep (keep_cons (t := 0) rfl (keep_cons (t := 1) rfl (keep_cons (t := 4) rfl keep_nil))) ?_
    refine aw_ret ?_
    show ∃ v H2, ResV _ _ _ _ _ _ v ∧ Sub H2 _ ∧ _
    exact ⟨_, H, resV rfl (.cons rfl .nil), (by repeat (first | exact Sub.refl _ | apply Sub.drop)), ⟨congrArg (Value.int .i64) (by omega), rfl⟩⟩
  · refine sr_nil ?_
    refine aw_keep (keep_cons (t := 0) rfl (keep_cons (t := 1) rfl (keep_cons (t := 4) rfl (keep_cons (t := 6) rfl keep_nil)))) ?_
    refine aw_false rfl ?_
    refine aw_skip ?_
    show AW _ _ _ _ _ _ _
    refine aw_seq ?_
    refine aw_seq_region ?_
    refine sr_x rfl (wtd_none rfl) rfl (Rd.x (x_move rfl)) ?_
    refine sr_x rfl (wtd_none rfl) rfl (Rd.x (x_move rfl)) ?_
    refine sr_cmp rfl (wtd_none rfl) rfl (Rd.x (x_gt rfl rfl)) (fun h2 => ?_) (fun h2 => ?_)
    · refine sr_nil ?_
      refine aw_keep (keep_cons (t := 0) rfl (keep_cons (t := 1) rfl (keep_cons (t := 4) rfl (keep_cons (t := 9) rfl keep_nil)))) ?_
      refine aw_true rfl ?_
      refine aw_seq_region ?_
      refine sr_x rfl (wtd_none rfl) rfl (Rd.x (x_move rfl)) ?_
      refine sr_x rfl (wtd_none rfl) rfl (Rd.x (x_assign rfl)) ?_
      refine sr_nil ?_
      refine aw_keep (keep_cons (t := 0) rfl (keep_cons (t := 4) rfl keep_nil)) ?_
      refine aw_ret ?_
      show ∃ v H2, ResV _ _ _ _ _ _ v ∧ Sub H2 _ ∧ _
      exact ⟨_, H, resV rfl (.cons rfl .nil), (by repeat (first | exact Sub.refl _ | apply Sub.drop)), ⟨congrArg (Value.int .i64) (by omega), rfl⟩⟩
    · refine sr_nil ?_
      refine aw_keep (keep_cons (t := 0) rfl (keep_cons (t := 1) rfl (keep_cons (t := 4) rfl (keep_cons (t := 9) rfl keep_nil)))) ?_
      refine aw_false rfl ?_
      refine aw_skip ?_
      show AW _ _ _ _ _ _ _
      refine aw_seq_region ?_
      refine sr_x rfl (wtd_none rfl) rfl (Rd.x (x_move rfl)) ?_
      refine sr_x rfl (wtd_none rfl) rfl (Rd.x (x_assign rfl)) ?_
      refine sr_nil ?_
      refine aw_keep (keep_cons (t := 4) rfl keep_nil) ?_
      refine aw_ret ?_
      show ∃ v H2, ResV _ _ _ _ _ _ v ∧ Sub H2 _ ∧ _
      exact ⟨_, H, resV rfl (.cons rfl .nil), (by repeat (first | exact Sub.refl _ | apply Sub.drop)), ⟨congrArg (Value.int .i64) (by omega), rfl⟩⟩
set_option maxRecDepth 100000 in
set_option maxHeartbeats 400000 in
theorem satAdd_s (b n : Nat) (xs : List Int) (H : SHeap) (hn : n = xs.length) (hm : n ≤ 1000000) (hc : Cells W0 H b 0 (xs.map (.int .i64))) : AC Try.prog W0 55 [.slice (some ⟨b, 0, none⟩) n n] H (fun v H' => v = .int .i64 (satAdd xs) ∧ H' = H) := by
  refine ac_of Try.func55 rfl rfl rfl ?_
  refine aw_seq_region ?_
  refine sr_x rfl (wtd_none rfl) rfl (Rd.x (x_assign rfl)) ?_
  refine sr_nil ?_
  refine aw_keep (keep_cons (t := 0) rfl (keep_cons (t := 2) rfl keep_nil)) ?_
  refine aw_seq_region ?_
  refine sr_x rfl (wtd_none rfl) rfl (Rd.x (x_assign rfl)) ?_
  refine sr_nil ?_
  refine aw_keep (keep_cons (t := 0) rfl (keep_cons (t := 2) rfl (keep_cons (t := 3) rfl keep_nil))) ?_
  refine aw_seq ?_
  refine aw_seq_region ?_
  refine sr_x rfl (wtd_none rfl) rfl (Rd.x (x_move rfl)) ?_
  refine sr_x rfl (wtd_none rfl) rfl (Rd.x (x_lenSlice Try.underlying105 rfl)) ?_
  refine sr_x rfl (wtd_none rfl) rfl (Rd.x (x_move rfl)) ?_
  refine sr_nil ?_
  refine aw_keep (keep_cons (t := 2) rfl (keep_cons (t := 3) rfl (keep_cons (t := 6) rfl (keep_cons (t := 7) rfl (keep_cons (t := 8) rfl keep_nil))))) ?_
  refine aw_block ?_
  refine aw_loop (ι := Nat) (fun k => k ≤ xs.length) (fun k => [(3, .int .i64 (satAdd (xs.take k))), (6, .slice (some ⟨b, 0, none⟩) n n), (7, .int .i64 n), (8, .int .i64 k)]) (fun _ => H) (fun k => xs.length - k) 0 (Nat.zero_le _) (by repeat (first | exact keep_nil | refine keep_cons rfl ?_)) (by repeat (first | exact Sub.refl _ | apply Sub.drop)) ?_
  intro k hk1
  refine aw_seq_region ?_
  refine sr_cmp rfl (wtd_none rfl) rfl (Rd.x (x_lt rfl rfl)) (fun h1 => ?_) (fun h1 => ?_)
  · refine sr_nil ?_
    refine aw_keep (keep_cons (t := 3) rfl (keep_cons (t := 6) rfl (keep_cons (t := 7) rfl (keep_cons (t := 8) rfl (keep_cons (t := 9) rfl keep_nil))))) ?_
    refine aw_seq ?_
    refine aw_true rfl ?_
    refine aw_skip ?_
    show AW _ _ _ _ _ _ _
    refine aw_seq ?_
    refine aw_block ?_
    refine aw_seq_region ?_
    obtain ⟨x, hx⟩ := get_ex (show k < xs.length by omega)
    have hr := satAdd_range (xs.take k)
    refine sr_x rfl (wtd_none rfl) rfl (Rd.x (x_indexAddr Try.underlying105 sz2 rfl rfl (by omega) (by omega))) ?_
    refine sr_x rfl (wtd_none rfl) rfl (Rd.x (x_load ag2 rfl (cells_get hc _ (v := .int .i64 x) (by simp [hx])))) ?_
    refine sr_x rfl (wtd_none rfl) rfl (Rd.x (x_assign rfl)) ?_
    refine sr_nil ?_
    refine aw_keep (keep_cons (t := 3) rfl (keep_cons (t := 5) rfl (keep_cons (t := 6) rfl (keep_cons (t := 7) rfl (keep_cons (t := 8) rfl (keep_cons (t := 9) rfl (keep_cons (t := 10) rfl (keep_cons (t := 11) rfl keep_nil)))))))) ?_
    refine aw_seq_region ?_
    refine sr_x rfl (wtd_none rfl) rfl (Rd.x (x_move rfl)) ?_
    refine sr_x rfl (wtd_none rfl) rfl (Rd.x (x_max rfl rfl)) ?_
    refine sr_x rfl (wtd_none rfl) rfl (Rd.x (x_min rfl rfl)) ?_
    refine sr_x rfl (wtd_none rfl) rfl (Rd.x (x_assign rfl)) ?_
    refine sr_nil ?_
    refine aw_keep (keep_cons (t := 3) rfl (keep_cons (t := 5) rfl (keep_cons (t := 6) rfl (keep_cons (t := 7) rfl (keep_cons (t := 8) rfl (keep_cons (t := 9) rfl (keep_cons (t := 10) rfl (keep_cons (t := 11) rfl (keep_cons (t := 12) rfl (keep_cons (t := 13) rfl (keep_cons (t := 14) rfl keep_nil))))))))))) ?_
    refine aw_region ?_
    refine sr_x rfl (wtd_none rfl) rfl (Rd.x (x_move rfl)) ?_
    refine sr_x rfl (wtd_none rfl) rfl (Rd.x (x_move rfl)) ?_
    refine sr_x rfl (wtd_none rfl) rfl (Rd.x (x_add' rfl rfl (i64w (by omega) (by omega)))) ?_
    refine sr_x rfl (wtd_none rfl) rfl (Rd.x (x_cast (x_min rfl rfl) (congrArg (Value.int .i64) (satAdd_succ hx).symm))) ?_
    refine sr_x rfl (wtd_none rfl) rfl (Rd.x (x_assign rfl)) ?_
    refine sr_nil ?_
    show AW _ _ _ _ _ _ _
    refine aw_region ?_
    refine sr_x rfl (wtd_none rfl) rfl (Rd.x (x_add' rfl rfl (i64w (by omega) (by omega)))) ?_
    refine sr_x rfl (wtd_none rfl) rfl (Rd.x (x_move rfl)) ?_
    refine sr_nil ?_
    show ∃ s', _ ∧ _ ∧ _ ∧ _
    exact ⟨k + 1, by omega, by omega, (by repeat (first | exact keep_nil | refine keep_cons rfl ?_)), (by repeat (first | exact Sub.refl _ | apply Sub.drop))⟩
  · refine sr_nil ?_
    refine aw_keep (keep_cons (t := 3) rfl (keep_cons (t := 6) rfl (keep_cons (t := 7) rfl (keep_cons (t := 8) rfl (keep_cons (t := 9) rfl keep_nil))))) ?_
    refine aw_seq ?_
    refine aw_false rfl ?_
    refine aw_exit ?_
    show AW _ _ _ _ _ _ _
    refine aw_seq_region ?_
    refine sr_x rfl (wtd_none rfl) rfl (Rd.x (x_move rfl)) ?_
    refine sr_x rfl (wtd_none rfl) rfl (Rd.x (x_assign rfl)) ?_
    refine sr_nil ?_
    refine aw_keep (keep_cons (t := 2) rfl keep_nil) ?_
    refine aw_ret ?_
    show ∃ v H2, ResV _ _ _ _ _ _ v ∧ Sub H2 _ ∧ _
    exact ⟨_, H, resV rfl (.cons rfl .nil), (by repeat (first | exact Sub.refl _ | apply Sub.drop)), ⟨congrArg (Value.int .i64) (by rw [List.take_of_length_le (by omega)]), rfl⟩⟩
set_option maxRecDepth 100000 in
set_option maxHeartbeats 400000 in
theorem sum_s (p : Part) (H : SHeap) : AC Try.prog W0 27 [p.v] H (fun v H' => v = .int .i64 (satAdd [p.wait, p.width, p.short, p.prio]) ∧ H' = H) := by
  refine ac_of Try.func27 rfl rfl rfl ?_
  refine aw_seq_region ?_
  refine sr_new rfl (wtd_none rfl) rfl (x_box rfl rfl) ?_
  intro r0_0 hr0_0 gr0_0
  refine sr_x rfl (wtd_none rfl) rfl (Rd.x (x_assign rfl)) ?_
  refine sr_nil ?_
  refine aw_keep (keep_cons (t := 1) rfl (keep_cons (t := 2) rfl keep_nil)) ?_
  refine aw_seq_region ?_
  refine sr_x rfl (wtd_none rfl) rfl (Rd.x (x_fieldAddr fd44_0 rfl)) ?_
  refine sr_x rfl (wtd_none rfl) rfl (Rd.x (x_load ag2 rfl (cells_ext (by repeat (first | exact List.mem_cons_self | apply List.mem_cons_of_mem | apply List.mem_append_right)) (by repeat (first | exact Ext.all _ | exact Ext.done | apply Ext.take | apply Ext.skip))))) ?_
  refine sr_x rfl (wtd_none rfl) rfl (Rd.x (x_fieldAddr fd44_1 rfl)) ?_
  refine sr_x rfl (wtd_none rfl) rfl (Rd.x (x_load ag2 rfl (cells_ext (by repeat (first | exact List.mem_cons_self | apply List.mem_cons_of_mem | apply List.mem_append_right)) (by repeat (first | exact Ext.all _ | exact Ext.done | apply Ext.take | apply Ext.skip))))) ?_
  refine sr_x rfl (wtd_none rfl) rfl (Rd.x (x_fieldAddr fd44_2 rfl)) ?_
  refine sr_x rfl (wtd_none rfl) rfl (Rd.x (x_load ag2 rfl (cells_ext (by repeat (first | exact List.mem_cons_self | apply List.mem_cons_of_mem | apply List.mem_append_right)) (by repeat (first | exact Ext.all _ | exact Ext.done | apply Ext.take | apply Ext.skip))))) ?_
  refine sr_x rfl (wtd_none rfl) rfl (Rd.x (x_fieldAddr fd44_3 rfl)) ?_
  refine sr_x rfl (wtd_none rfl) rfl (Rd.x (x_load ag2 rfl (cells_ext (by repeat (first | exact List.mem_cons_self | apply List.mem_cons_of_mem | apply List.mem_append_right)) (by repeat (first | exact Ext.all _ | exact Ext.done | apply Ext.take | apply Ext.skip))))) ?_
  refine sr_new rfl (wtd_none rfl) rfl (x_buildSlice Try.underlying105 sz2 zr2 rfl rfl rfl rfl (by repeat (first | exact Parts.nil | (apply Parts.cons; rfl))) (by repeat (first | exact Fill.done | (apply Fill.part; rfl; rfl; rfl; focus (repeat (first | exact Spl.done | exact Spl.all rfl | apply Spl.put | apply Spl.skip)))))) ?_
  intro r1_8 hr1_8 gr1_8
  refine sr_d rfl (wtd_none rfl) rfl (opS_call rfl rfl rfl rfl cl55 (satAdd_s _ 4 [_, _, _, _] _ rfl (by omega) (cells_ext (by repeat (first | exact List.mem_cons_self | apply List.mem_cons_of_mem | apply List.mem_append_right)) (by repeat (first | exact Ext.all _ | exact Ext.done | apply Ext.take | apply Ext.skip))))) ?_
  rintro _ _ ⟨rfl, rfl⟩
  refine sr_x rfl (wtd_none rfl) rfl (Rd.x (x_assign rfl)) ?_
  refine sr_nil ?_
  refine aw_keep (keep_cons (t := 2) rfl keep_nil) ?_
  refine aw_ret ?_
  show ∃ v H2, ResV _ _ _ _ _ _ v ∧ Sub H2 _ ∧ _
  exact ⟨_, H, resV rfl (.cons rfl .nil), (by repeat (first | exact Sub.refl _ | apply Sub.drop)), ⟨rfl, rfl⟩⟩
set_option maxRecDepth 100000 in
set_option maxHeartbeats 400000 in
theorem of_s (r : Rule) (j : Job) (w : Int) (H : SHeap) (hj : j.Wf) (hw : w ≤ 9223372036854775807) : AC Try.prog W0 23 [r.v, j.v, .int .i64 w] H (fun v H' => v = (ofP r j w).v ∧ H' = H) := by
  unfold Job.Wf at hj
  rw [i64_min, i64_max] at hj
  refine ac_of Try.func23 rfl rfl rfl ?_
  refine aw_seq_region ?_
  refine sr_new rfl (wtd_none rfl) rfl (x_box rfl rfl) ?_
  intro r0_0 hr0_0 gr0_0
  refine sr_new rfl (wtd_none rfl) rfl (x_box rfl rfl) ?_
  intro r0_1 hr0_1 gr0_1
  refine sr_new rfl (wtd_none rfl) rfl (x_alloc zr44 rfl) ?_
  intro r0_2 hr0_2 gr0_2
  refine sr_nil ?_
  refine aw_keep (keep_cons (t := 2) rfl (keep_cons (t := 3) rfl (keep_cons (t := 4) rfl (keep_cons (t := 6) rfl keep_nil)))) ?_
  refine aw_seq ?_
  refine aw_seq_region ?_
  refine sr_x rfl (wtd_none rfl) rfl (Rd.x (x_loadN ag42 sz42 rfl (cells_ext (by repeat (first | exact List.mem_cons_self | apply List.mem_cons_of_mem | apply List.mem_append_right)) (by repeat (first | exact Ext.all _ | exact Ext.done | apply Ext.take | apply Ext.skip))) rfl)) ?_
  refine sr_d rfl (wtd_none rfl) rfl (opS_call rfl rfl rfl rfl cl24 (right24_s _ _)) ?_
  rintro _ _ ⟨⟨c0, rfl, hr⟩, rfl⟩
  cases c0
  · refine sr_x rfl (wtd_none rfl) rfl (Rd.x (x_not rfl)) ?_
    refine sr_nil ?_
    refine aw_keep (keep_cons (t := 2) rfl (keep_cons (t := 3) rfl (keep_cons (t := 4) rfl (keep_cons (t := 6) rfl (keep_cons (t := 9) rfl keep_nil))))) ?_
    refine aw_true rfl ?_
    refine aw_seq_region ?_
    refine sr_x rfl (wtd_none rfl) rfl (Rd.x (x_build zr44 rfl fl44 (by repeat (first | exact Parts.nil | (apply Parts.cons; rfl))) (by repeat (first | exact Fill.done | (apply Fill.part; rfl; rfl; rfl; focus (repeat (first | exact Spl.done | exact Spl.all rfl | apply Spl.put | apply Spl.skip))))))) ?_
    refine sr_x0 rfl (wtd_none rfl) (x_store sz44 rfl rfl rfl rfl rfl (by repeat (first | exact Repl.here | apply Repl.there | apply Repl.app)) (by repeat (first | exact Spl.done | exact Spl.all rfl | apply Spl.put | apply Spl.skip))) ?_
    refine sr_nil ?_
    refine aw_keep (keep_cons (t := 2) rfl (keep_cons (t := 3) rfl (keep_cons (t := 4) rfl (keep_cons (t := 6) rfl keep_nil)))) ?_
    refine aw_ret ?_
    show ∃ v H2, ResV _ _ _ _ _ _ v ∧ Sub H2 _ ∧ _
    exact ⟨_, H, resV rfl (.cons (⟨_, rfl, fun hw => rd_loadVarN ag44 sz44 hw (cells_ext (by repeat (first | exact List.mem_cons_self | apply List.mem_cons_of_mem | apply List.mem_append_right)) (by repeat (first | exact Ext.all _ | exact Ext.done | apply Ext.take | apply Ext.skip))) rfl⟩) .nil), (by repeat (first | exact Sub.refl _ | apply Sub.drop)), ⟨by first | (rw [ofP, if_pos hRr]; try rfl) | (rw [ofP, if_neg (fun q => (nomatch hr.2 q))]; rfl), rfl⟩⟩
  · refine sr_x rfl (wtd_none rfl) rfl (Rd.x (x_not rfl)) ?_
    refine sr_nil ?_
    refine aw_keep (keep_cons (t := 2) rfl (keep_cons (t := 3) rfl (keep_cons (t := 4) rfl (keep_cons (t := 6) rfl (keep_cons (t := 9) rfl keep_nil))))) ?_
    refine aw_false rfl ?_
    refine aw_skip ?_
    show AW _ _ _ _ _ _ _
    refine aw_seq_dr ⟨_, 34, 44, [[], [0], [], [2], [], [4], [2, 3, 4, 5], [0, 1, 2, 3, 4, 5, 6], [], [8], [0, 1, 2, 3, 4, 5, 6, 7, 8, 9], [], [11], [], [13], [13, 14], [13, 14, 15], [13, 14, 15, 16], [11, 12, 13, 14, 15, 16, 17], [], [19], [], [21], [0, 1, 2, 3, 4, 5, 6, 7, 21, 22], [0, 1, 2, 3, 4, 5, 6, 7, 19, 20, 21, 22, 23], [], [25], [], [27], [27, 28], [27, 28, 29], [25, 26, 27, 28, 29, 30], [0, 1, 2, 3, 4, 5, 6, 7, 8, 9, 10, 11, 12, 13, 14, 15, 16, 17, 18, 19, 20, 21, 22, 23, 24, 25, 26, 27, 28, 29, 30, 31], [0, 1, 2, 3, 4, 5, 6, 7, 8, 9, 10, 11, 12, 13, 14, 15, 16, 17, 18, 19, 20, 21, 22, 23, 24, 25, 26, 27, 28, 29, 30, 31, 32]], [.light, .mem, .light, .light, .light, .mem, .light, .call, .light, .mem, .light, .light, .mem, .light, .mem, .light, .light, .light, .light, .light, .mem, .light, .mem, .call, .light, .light, .mem, .light, .mem, .light, .light, .light, .light, .eff]⟩ (by kernel_rfl) rfl rfl mix ?_
    have hRr := hr.1 rfl
    have hRr2 := hRr
    obtain ⟨h0, h1', h2', h3', h4', h5'⟩ := hRr2
    have hq := tdiv_bd2 (a := max w 0) (n := r.unit) (by omega) (by omega)
    have g2 := mul_bd h2'.1 h2'.2 (b := 64 - min (max j.width 0) 64) (n := 64) (by omega) (by omega)
    have hhv := halv_le (max j.limit 1)
    have g3 := mul_bd h3'.1 h3'.2 (b := (halv (max j.limit 1) : Int)) (n := 1048576) (by omega) (by omega)
    have g4 := mul_bd h4'.1 h4'.2 (b := min (max j.prio 0) 1000) (n := 1000) (by omega) (by omega)
    refine dr_light rfl rfl (wtd_none rfl) (x_fieldAddr fd42_0 rfl) ?_
    refine dr_mem0 rfl rfl (wtd_none rfl) (x_load ag3 rfl (cells_ext (by repeat (first | exact List.mem_cons_self | apply List.mem_cons_of_mem | apply List.mem_append_right)) (by repeat (first | exact Ext.all _ | exact Ext.done | apply Ext.take | apply Ext.skip)))) ?_
    refine dr_light rfl rfl (wtd_none rfl) (x_move rfl) ?_
    refine dr_light rfl rfl (wtd_none rfl) (x_max rfl rfl) ?_
    refine dr_light rfl rfl (wtd_none rfl) (x_fieldAddr fd42_1 rfl) ?_
    refine dr_mem0 rfl rfl (wtd_none rfl) (x_load ag2 rfl (cells_ext (by repeat (first | exact List.mem_cons_self | apply List.mem_cons_of_mem | apply List.mem_append_right)) (by repeat (first | exact Ext.all _ | exact Ext.done | apply Ext.take | apply Ext.skip)))) ?_
    refine dr_light rfl rfl (wtd_none rfl) (x_quo' rfl rfl (by omega) (i64w (by omega) (by omega))) ?_
    refine dr_callq0 rfl rfl (wtd_none rfl) (opS_F rfl rfl rfl rfl cl53 ((satMul_s _ _ _))) (⟨_, rfl⟩) ?_
    rintro _ rfl
    refine dr_light rfl rfl (wtd_none rfl) (x_fieldAddr fd42_2 rfl) ?_
    refine dr_mem0 rfl rfl (wtd_none rfl) (x_load ag3 rfl (cells_ext (by repeat (first | exact List.mem_cons_self | apply List.mem_cons_of_mem | apply List.mem_append_right)) (by repeat (first | exact Ext.all _ | exact Ext.done | apply Ext.take | apply Ext.skip)))) ?_
    refine dr_light rfl rfl (wtd_none rfl) (x_min rfl rfl) ?_
    refine dr_light rfl rfl (wtd_none rfl) (x_fieldAddr fd42_3 rfl) ?_
    refine dr_mem0 rfl rfl (wtd_none rfl) (x_load ag3 rfl (cells_ext (by repeat (first | exact List.mem_cons_self | apply List.mem_cons_of_mem | apply List.mem_append_right)) (by repeat (first | exact Ext.all _ | exact Ext.done | apply Ext.take | apply Ext.skip)))) ?_
    refine dr_light rfl rfl (wtd_none rfl) (x_fieldAddr fd28_2 rfl) ?_
    refine dr_mem0 rfl rfl (wtd_none rfl) (x_load ag3 rfl (cells_ext (by repeat (first | exact List.mem_cons_self | apply List.mem_cons_of_mem | apply List.mem_append_right)) (by repeat (first | exact Ext.all _ | exact Ext.done | apply Ext.take | apply Ext.skip)))) ?_
    refine dr_light rfl rfl (wtd_none rfl) (x_max rfl rfl) ?_
    refine dr_light rfl rfl (wtd_none rfl) (x_min rfl rfl) ?_
    refine dr_light rfl rfl (wtd_none rfl) (x_sub' rfl rfl (i64w (by omega) (by omega))) ?_
    refine dr_light rfl rfl (wtd_none rfl) (x_mul' rfl rfl (i64w (by omega) (by omega))) ?_
    refine dr_light rfl rfl (wtd_none rfl) (x_fieldAddr fd42_4 rfl) ?_
    refine dr_mem0 rfl rfl (wtd_none rfl) (x_load ag3 rfl (cells_ext (by repeat (first | exact List.mem_cons_self | apply List.mem_cons_of_mem | apply List.mem_append_right)) (by repeat (first | exact Ext.all _ | exact Ext.done | apply Ext.take | apply Ext.skip)))) ?_
    refine dr_light rfl rfl (wtd_none rfl) (x_fieldAddr fd28_3 rfl) ?_
    refine dr_mem0 rfl rfl (wtd_none rfl) (x_load ag2 rfl (cells_ext (by repeat (first | exact List.mem_cons_self | apply List.mem_cons_of_mem | apply List.mem_append_right)) (by repeat (first | exact Ext.all _ | exact Ext.done | apply Ext.take | apply Ext.skip)))) ?_
    refine dr_callq0 rfl rfl (wtd_none rfl) (opS_F rfl rfl rfl rfl cl28 ((halves28_s _ _ (by omega)))) (⟨_, rfl⟩) ?_
    rintro _ rfl
    refine dr_light rfl rfl (wtd_none rfl) (x_mul' rfl rfl (i64w (by omega) (by omega))) ?_
    refine dr_light rfl rfl (wtd_none rfl) (x_fieldAddr fd42_5 rfl) ?_
    refine dr_mem0 rfl rfl (wtd_none rfl) (x_load ag3 rfl (cells_ext (by repeat (first | exact List.mem_cons_self | apply List.mem_cons_of_mem | apply List.mem_append_right)) (by repeat (first | exact Ext.all _ | exact Ext.done | apply Ext.take | apply Ext.skip)))) ?_
    refine dr_light rfl rfl (wtd_none rfl) (x_fieldAddr fd28_4 rfl) ?_
    refine dr_mem0 rfl rfl (wtd_none rfl) (x_load ag3 rfl (cells_ext (by repeat (first | exact List.mem_cons_self | apply List.mem_cons_of_mem | apply List.mem_append_right)) (by repeat (first | exact Ext.all _ | exact Ext.done | apply Ext.take | apply Ext.skip)))) ?_
    refine dr_light rfl rfl (wtd_none rfl) (x_max rfl rfl) ?_
    refine dr_light rfl rfl (wtd_none rfl) (x_min rfl rfl) ?_
    refine dr_light rfl rfl (wtd_none rfl) (x_mul' rfl rfl (i64w (by omega) (by omega))) ?_
    refine dr_light rfl rfl (wtd_none rfl) (x_build zr44 rfl fl44 (by repeat (first | exact Parts.nil | (apply Parts.cons; rfl))) (by repeat (first | exact Fill.done | (apply Fill.part; rfl; rfl; rfl; focus (repeat (first | exact Spl.done | exact Spl.all rfl | apply Spl.put | apply Spl.skip)))))) ?_
    refine dr_store0 rfl rfl (wtd_none rfl) (x_store sz44 rfl rfl rfl rfl rfl (by repeat (first | exact Repl.here | apply Repl.there | apply Repl.app)) (by repeat (first | exact Spl.done | exact Spl.all rfl | apply Spl.put | apply Spl.skip))) (by first | rfl | simp [keys_append, keys_cons]) ?_
    refine dr_nil0 ?_
    refine aw_keep (keep_cons (t := 6) rfl keep_nil) ?_
    refine aw_ret ?_
    show ∃ v H2, ResV _ _ _ _ _ _ v ∧ Sub H2 _ ∧ _
    exact ⟨_, H, resV rfl (.cons (⟨_, rfl, fun hw => rd_loadVarN ag44 sz44 hw (cells_ext (by repeat (first | exact List.mem_cons_self | apply List.mem_cons_of_mem | apply List.mem_append_right)) (by repeat (first | exact Ext.all _ | exact Ext.done | apply Ext.take | apply Ext.skip))) rfl⟩) .nil), (by repeat (first | exact Sub.refl _ | apply Sub.drop)), ⟨by first | (rw [ofP, if_pos hRr]; try rfl) | (rw [ofP, if_neg (fun q => (nomatch hr.2 q))]; rfl), rfl⟩⟩
set_option maxRecDepth 100000 in
set_option maxHeartbeats 400000 in
theorem of2_s (r : Rule) (j : Job) (w : Int) (H : SHeap) (hj : j.Wf) (hw : w ≤ 9223372036854775807) : AC Try.prog W0 26 [r.v, j.v, .int .i64 w] H (fun v H' => v = (ofP r j w).v ∧ H' = H) := by
  unfold Job.Wf at hj
  rw [i64_min, i64_max] at hj
  refine ac_of Try.func26 rfl rfl rfl ?_
  refine aw_seq_region ?_
  refine sr_new rfl (wtd_none rfl) rfl (x_box rfl rfl) ?_
  intro r0_0 hr0_0 gr0_0
  refine sr_new rfl (wtd_none rfl) rfl (x_box rfl rfl) ?_
  intro r0_1 hr0_1 gr0_1
  refine sr_new rfl (wtd_none rfl) rfl (x_alloc zr44 rfl) ?_
  intro r0_2 hr0_2 gr0_2
  refine sr_nil ?_
  refine aw_keep (keep_cons (t := 2) rfl (keep_cons (t := 3) rfl (keep_cons (t := 4) rfl (keep_cons (t := 6) rfl keep_nil)))) ?_
  refine aw_seq ?_
  refine aw_seq_region ?_
  refine sr_x rfl (wtd_none rfl) rfl (Rd.x (x_loadN ag42 sz42 rfl (cells_ext (by repeat (first | exact List.mem_cons_self | apply List.mem_cons_of_mem | apply List.mem_append_right)) (by repeat (first | exact Ext.all _ | exact Ext.done | apply Ext.take | apply Ext.skip))) rfl)) ?_
  refine sr_d rfl (wtd_none rfl) rfl (opS_call rfl rfl rfl rfl cl25 (right25_s _ _)) ?_
  rintro _ _ ⟨⟨c0, rfl, hr⟩, rfl⟩
  cases c0
  · refine sr_x rfl (wtd_none rfl) rfl (Rd.x (x_not rfl)) ?_
    refine sr_nil ?_
    refine aw_keep (keep_cons (t := 2) rfl (keep_cons (t := 3) rfl (keep_cons (t := 4) rfl (keep_cons (t := 6) rfl (keep_cons (t := 10) rfl keep_nil))))) ?_
    refine aw_true rfl ?_
    refine aw_seq_region ?_
    refine sr_x rfl (wtd_none rfl) rfl (Rd.x (x_build zr44 rfl fl44 (by repeat (first | exact Parts.nil | (apply Parts.cons; rfl))) (by repeat (first | exact Fill.done | (apply Fill.part; rfl; rfl; rfl; focus (repeat (first | exact Spl.done | exact Spl.all rfl | apply Spl.put | apply Spl.skip))))))) ?_
    refine sr_x0 rfl (wtd_none rfl) (x_store sz44 rfl rfl rfl rfl rfl (by repeat (first | exact Repl.here | apply Repl.there | apply Repl.app)) (by repeat (first | exact Spl.done | exact Spl.all rfl | apply Spl.put | apply Spl.skip))) ?_
    refine sr_nil ?_
    refine aw_keep (keep_cons (t := 2) rfl (keep_cons (t := 3) rfl (keep_cons (t := 4) rfl (keep_cons (t := 6) rfl keep_nil)))) ?_
    refine aw_ret ?_
    show ∃ v H2, ResV _ _ _ _ _ _ v ∧ Sub H2 _ ∧ _
    exact ⟨_, H, resV rfl (.cons (⟨_, rfl, fun hw => rd_loadVarN ag44 sz44 hw (cells_ext (by repeat (first | exact List.mem_cons_self | apply List.mem_cons_of_mem | apply List.mem_append_right)) (by repeat (first | exact Ext.all _ | exact Ext.done | apply Ext.take | apply Ext.skip))) rfl⟩) .nil), (by repeat (first | exact Sub.refl _ | apply Sub.drop)), ⟨by first | (rw [ofP, if_pos hRr]; exact part_eq (by dsimp only; first | (rw [show max w 0 = w by omega]; omega) | (rw [show max w 0 = 0 by omega]; omega)) rfl rfl rfl) | (rw [ofP, if_neg (fun q => (nomatch hr.2 q))]; rfl), rfl⟩⟩
  · refine sr_x rfl (wtd_none rfl) rfl (Rd.x (x_not rfl)) ?_
    refine sr_nil ?_
    refine aw_keep (keep_cons (t := 2) rfl (keep_cons (t := 3) rfl (keep_cons (t := 4) rfl (keep_cons (t := 6) rfl (keep_cons (t := 10) rfl keep_nil))))) ?_
    refine aw_false rfl ?_
    refine aw_skip ?_
    show AW _ _ _ _ _ _ _
    refine aw_seq ?_
    refine aw_seq_region ?_
    refine sr_x rfl (wtd_none rfl) rfl (Rd.x (x_move rfl)) ?_
    refine sr_cmp rfl (wtd_none rfl) rfl (Rd.x (x_lt rfl rfl)) (fun h1 => ?_) (fun h1 => ?_)
    · refine sr_nil ?_
      refine aw_keep (keep_cons (t := 2) rfl (keep_cons (t := 3) rfl (keep_cons (t := 4) rfl (keep_cons (t := 6) rfl (keep_cons (t := 13) rfl keep_nil))))) ?_
      refine aw_true rfl ?_
      refine aw_region ?_
      refine sr_x rfl (wtd_none rfl) rfl (Rd.x (x_assign rfl)) ?_
      refine sr_nil ?_
      show AW _ _ _ _ _ _ _
      refine aw_seq_dr ⟨_, 8, 48, [[], [0], [], [], [3], [2, 3, 4], [0, 1, 2, 3, 4, 5], [0, 1, 2, 3, 4, 5, 6]], [.light, .mem, .light, .light, .mem, .light, .call, .light]⟩ (by kernel_rfl) rfl rfl mix ?_
      have hRr := hr.1 rfl
      have hRr2 := hRr
      obtain ⟨h0, h1', h2', h3', h4', h5'⟩ := hRr2
      first | have hq := tdiv_bd2 (a := w) (n := r.unit) (by omega) (by omega) | have hq := tdiv_bd2 (a := 0) (n := r.unit) (by omega) (by omega)
      refine dr_light rfl rfl (wtd_none rfl) (x_fieldAddr fd42_0 rfl) ?_
      refine dr_mem0 rfl rfl (wtd_none rfl) (x_load ag3 rfl (cells_ext (by repeat (first | exact List.mem_cons_self | apply List.mem_cons_of_mem | apply List.mem_append_right)) (by repeat (first | exact Ext.all _ | exact Ext.done | apply Ext.take | apply Ext.skip)))) ?_
      refine dr_light rfl rfl (wtd_none rfl) (x_move rfl) ?_
      refine dr_light rfl rfl (wtd_none rfl) (x_fieldAddr fd42_1 rfl) ?_
      refine dr_mem0 rfl rfl (wtd_none rfl) (x_load ag2 rfl (cells_ext (by repeat (first | exact List.mem_cons_self | apply List.mem_cons_of_mem | apply List.mem_append_right)) (by repeat (first | exact Ext.all _ | exact Ext.done | apply Ext.take | apply Ext.skip)))) ?_
      refine dr_light rfl rfl (wtd_none rfl) (x_quo' rfl rfl (by omega) (i64w (by omega) (by omega))) ?_
      refine dr_callq0 rfl rfl (wtd_none rfl) (opS_F rfl rfl rfl rfl cl53 ((satMul_s _ _ _))) (⟨_, rfl⟩) ?_
      rintro _ rfl
      refine dr_light rfl rfl (wtd_none rfl) (x_assign rfl) ?_
      refine dr_nil0 ?_
      refine aw_keep (keep_cons (t := 3) rfl (keep_cons (t := 4) rfl (keep_cons (t := 6) rfl (keep_cons (t := 7) rfl keep_nil)))) ?_
      refine aw_seq ?_
      refine aw_seq_region ?_
      refine sr_x rfl (wtd_none rfl) rfl (Rd.x (x_move rfl)) ?_
      refine sr_x rfl (wtd_none rfl) rfl (Rd.x (x_fieldAddr fd42_2 rfl)) ?_
      refine sr_x rfl (wtd_none rfl) rfl (Rd.x (x_load ag3 rfl (cells_ext (by repeat (first | exact List.mem_cons_self | apply List.mem_cons_of_mem | apply List.mem_append_right)) (by repeat (first | exact Ext.all _ | exact Ext.done | apply Ext.take | apply Ext.skip))))) ?_
      refine sr_cmp rfl (wtd_none rfl) rfl (Rd.x (x_gt rfl rfl)) (fun h2 => ?_) (fun h2 => ?_)
      · refine sr_nil ?_
        refine aw_keep (keep_cons (t := 3) rfl (keep_cons (t := 4) rfl (keep_cons (t := 6) rfl (keep_cons (t := 7) rfl (keep_cons (t := 24) rfl keep_nil))))) ?_
        refine aw_true rfl ?_
        refine aw_region ?_
        refine sr_x rfl (wtd_none rfl) rfl (Rd.x (x_fieldAddr fd42_2 rfl)) ?_
        refine sr_x rfl (wtd_none rfl) rfl (Rd.x (x_load ag3 rfl (cells_ext (by repeat (first | exact List.mem_cons_self | apply List.mem_cons_of_mem | apply List.mem_append_right)) (by repeat (first | exact Ext.all _ | exact Ext.done | apply Ext.take | apply Ext.skip))))) ?_
        refine sr_x rfl (wtd_none rfl) rfl (Rd.x (x_assign rfl)) ?_
        refine sr_nil ?_
        show AW _ _ _ _ _ _ _
        refine aw_seq_dr ⟨_, 22, 48, [[], [], [1], [], [3], [3, 4], [3, 4, 5], [1, 2, 3, 4, 5, 6], [], [8], [], [10], [3, 4, 5, 10, 11], [3, 4, 5, 8, 9, 10, 11, 12], [], [14], [], [16], [3, 4, 5, 10, 11, 12, 16, 17], [3, 4, 5, 10, 11, 12, 14, 15, 16, 17, 18], [0, 1, 2, 3, 4, 5, 6, 7, 8, 9, 10, 11, 12, 13, 14, 15, 16, 17, 18, 19], [0, 1, 2, 3, 4, 5, 6, 7, 8, 9, 10, 11, 12, 13, 14, 15, 16, 17, 18, 19, 20]], [.light, .light, .mem, .light, .mem, .call, .light, .light, .light, .mem, .light, .mem, .call, .light, .light, .mem, .light, .mem, .call, .light, .light, .eff]⟩ (by kernel_rfl) rfl rfl mix ?_
        have g2 := mul_bd h2'.1 h2'.2 (b := 64 - min (max j.width 0) 64) (n := 64) (by omega) (by omega)
        have hhv := halv_le (max j.limit 1)
        have g3 := mul_bd h3'.1 h3'.2 (b := (halv (max j.limit 1) : Int)) (n := 1048576) (by omega) (by omega)
        have g4 := mul_bd h4'.1 h4'.2 (b := min (max j.prio 0) 1000) (n := 1000) (by omega) (by omega)
        refine dr_light rfl rfl (wtd_none rfl) (x_move rfl) ?_
        refine dr_light rfl rfl (wtd_none rfl) (x_fieldAddr fd42_3 rfl) ?_
        refine dr_mem0 rfl rfl (wtd_none rfl) (x_load ag3 rfl (cells_ext (by repeat (first | exact List.mem_cons_self | apply List.mem_cons_of_mem | apply List.mem_append_right)) (by repeat (first | exact Ext.all _ | exact Ext.done | apply Ext.take | apply Ext.skip)))) ?_
        refine dr_light rfl rfl (wtd_none rfl) (x_fieldAddr fd28_2 rfl) ?_
        refine dr_mem0 rfl rfl (wtd_none rfl) (x_load ag3 rfl (cells_ext (by repeat (first | exact List.mem_cons_self | apply List.mem_cons_of_mem | apply List.mem_append_right)) (by repeat (first | exact Ext.all _ | exact Ext.done | apply Ext.take | apply Ext.skip)))) ?_
        refine dr_callq0 rfl rfl (wtd_none rfl) (opS_F rfl rfl rfl rfl cl54 ((hold_s _ _ _ (by omega)))) (⟨_, rfl⟩) ?_
        rintro _ rfl
        refine dr_light rfl rfl (wtd_none rfl) (x_sub' rfl rfl (i64w (by omega) (by omega))) ?_
        refine dr_light rfl rfl (wtd_none rfl) (x_mul' rfl rfl (i64w (by omega) (by omega))) ?_
        refine dr_light rfl rfl (wtd_none rfl) (x_fieldAddr fd42_4 rfl) ?_
        refine dr_mem0 rfl rfl (wtd_none rfl) (x_load ag3 rfl (cells_ext (by repeat (first | exact List.mem_cons_self | apply List.mem_cons_of_mem | apply List.mem_append_right)) (by repeat (first | exact Ext.all _ | exact Ext.done | apply Ext.take | apply Ext.skip)))) ?_
        refine dr_light rfl rfl (wtd_none rfl) (x_fieldAddr fd28_3 rfl) ?_
        refine dr_mem0 rfl rfl (wtd_none rfl) (x_load ag2 rfl (cells_ext (by repeat (first | exact List.mem_cons_self | apply List.mem_cons_of_mem | apply List.mem_append_right)) (by repeat (first | exact Ext.all _ | exact Ext.done | apply Ext.take | apply Ext.skip)))) ?_
        refine dr_callq0 rfl rfl (wtd_none rfl) (opS_F rfl rfl rfl rfl cl29 ((halves29_s _ _ (by omega)))) (⟨_, rfl⟩) ?_
        rintro _ rfl
        refine dr_light rfl rfl (wtd_none rfl) (x_mul' rfl rfl (i64w (by omega) (by omega))) ?_
        refine dr_light rfl rfl (wtd_none rfl) (x_fieldAddr fd42_5 rfl) ?_
        refine dr_mem0 rfl rfl (wtd_none rfl) (x_load ag3 rfl (cells_ext (by repeat (first | exact List.mem_cons_self | apply List.mem_cons_of_mem | apply List.mem_append_right)) (by repeat (first | exact Ext.all _ | exact Ext.done | apply Ext.take | apply Ext.skip)))) ?_
        refine dr_light rfl rfl (wtd_none rfl) (x_fieldAddr fd28_4 rfl) ?_
        refine dr_mem0 rfl rfl (wtd_none rfl) (x_load ag3 rfl (cells_ext (by repeat (first | exact List.mem_cons_self | apply List.mem_cons_of_mem | apply List.mem_append_right)) (by repeat (first | exact Ext.all _ | exact Ext.done | apply Ext.take | apply Ext.skip)))) ?_
        refine dr_callq0 rfl rfl (wtd_none rfl) (opS_F rfl rfl rfl rfl cl54 ((hold_s _ _ _ (by omega)))) (⟨_, rfl⟩) ?_
        rintro _ rfl
        refine dr_light rfl rfl (wtd_none rfl) (x_mul' rfl rfl (i64w (by omega) (by omega))) ?_
        refine dr_light rfl rfl (wtd_none rfl) (x_build zr44 rfl fl44 (by repeat (first | exact Parts.nil | (apply Parts.cons; rfl))) (by repeat (first | exact Fill.done | (apply Fill.part; rfl; rfl; rfl; focus (repeat (first | exact Spl.done | exact Spl.all rfl | apply Spl.put | apply Spl.skip)))))) ?_
        refine dr_store0 rfl rfl (wtd_none rfl) (x_store sz44 rfl rfl rfl rfl rfl (by repeat (first | exact Repl.here | apply Repl.there | apply Repl.app)) (by repeat (first | exact Spl.done | exact Spl.all rfl | apply Spl.put | apply Spl.skip))) (by first | rfl | simp [keys_append, keys_cons]) ?_
        refine dr_nil0 ?_
        refine aw_keep (keep_cons (t := 6) rfl keep_nil) ?_
        refine aw_ret ?_
        show ∃ v H2, ResV _ _ _ _ _ _ v ∧ Sub H2 _ ∧ _
        exact ⟨_, H, resV rfl (.cons (⟨_, rfl, fun hw => rd_loadVarN ag44 sz44 hw (cells_ext (by repeat (first | exact List.mem_cons_self | apply List.mem_cons_of_mem | apply List.mem_append_right)) (by repeat (first | exact Ext.all _ | exact Ext.done | apply Ext.take | apply Ext.skip))) rfl⟩) .nil), (by repeat (first | exact Sub.refl _ | apply Sub.drop)), ⟨by first | (rw [ofP, if_pos hRr]; exact part_eq (by dsimp only; first | (rw [show max w 0 = w by omega]; omega) | (rw [show max w 0 = 0 by omega]; omega)) rfl rfl rfl) | (rw [ofP, if_neg (fun q => (nomatch hr.2 q))]; rfl), rfl⟩⟩
      · refine sr_nil ?_
        refine aw_keep (keep_cons (t := 3) rfl (keep_cons (t := 4) rfl (keep_cons (t := 6) rfl (keep_cons (t := 7) rfl (keep_cons (t := 24) rfl keep_nil))))) ?_
        refine aw_false rfl ?_
        refine aw_skip ?_
        show AW _ _ _ _ _ _ _
        refine aw_seq_dr ⟨_, 22, 48, [[], [], [1], [], [3], [3, 4], [3, 4, 5], [1, 2, 3, 4, 5, 6], [], [8], [], [10], [3, 4, 5, 10, 11], [3, 4, 5, 8, 9, 10, 11, 12], [], [14], [], [16], [3, 4, 5, 10, 11, 12, 16, 17], [3, 4, 5, 10, 11, 12, 14, 15, 16, 17, 18], [0, 1, 2, 3, 4, 5, 6, 7, 8, 9, 10, 11, 12, 13, 14, 15, 16, 17, 18, 19], [0, 1, 2, 3, 4, 5, 6, 7, 8, 9, 10, 11, 12, 13, 14, 15, 16, 17, 18, 19, 20]], [.light, .light, .mem, .light, .mem, .call, .light, .light, .light, .mem, .light, .mem, .call, .light, .light, .mem, .light, .mem, .call, .light, .light, .eff]⟩ (by kernel_rfl) rfl rfl mix ?_
        have g2 := mul_bd h2'.1 h2'.2 (b := 64 - min (max j.width 0) 64) (n := 64) (by omega) (by omega)
        have hhv := halv_le (max j.limit 1)
        have g3 := mul_bd h3'.1 h3'.2 (b := (halv (max j.limit 1) : Int)) (n := 1048576) (by omega) (by omega)
        have g4 := mul_bd h4'.1 h4'.2 (b := min (max j.prio 0) 1000) (n := 1000) (by omega) (by omega)
        refine dr_light rfl rfl (wtd_none rfl) (x_move rfl) ?_
        refine dr_light rfl rfl (wtd_none rfl) (x_fieldAddr fd42_3 rfl) ?_
        refine dr_mem0 rfl rfl (wtd_none rfl) (x_load ag3 rfl (cells_ext (by repeat (first | exact List.mem_cons_self | apply List.mem_cons_of_mem | apply List.mem_append_right)) (by repeat (first | exact Ext.all _ | exact Ext.done | apply Ext.take | apply Ext.skip)))) ?_
        refine dr_light rfl rfl (wtd_none rfl) (x_fieldAddr fd28_2 rfl) ?_
        refine dr_mem0 rfl rfl (wtd_none rfl) (x_load ag3 rfl (cells_ext (by repeat (first | exact List.mem_cons_self | apply List.mem_cons_of_mem | apply List.mem_append_right)) (by repeat (first | exact Ext.all _ | exact Ext.done | apply Ext.take | apply Ext.skip)))) ?_
        refine dr_callq0 rfl rfl (wtd_none rfl) (opS_F rfl rfl rfl rfl cl54 ((hold_s _ _ _ (by omega)))) (⟨_, rfl⟩) ?_
        rintro _ rfl
        refine dr_light rfl rfl (wtd_none rfl) (x_sub' rfl rfl (i64w (by omega) (by omega))) ?_
        refine dr_light rfl rfl (wtd_none rfl) (x_mul' rfl rfl (i64w (by omega) (by omega))) ?_
        refine dr_light rfl rfl (wtd_none rfl) (x_fieldAddr fd42_4 rfl) ?_
        refine dr_mem0 rfl rfl (wtd_none rfl) (x_load ag3 rfl (cells_ext (by repeat (first | exact List.mem_cons_self | apply List.mem_cons_of_mem | apply List.mem_append_right)) (by repeat (first | exact Ext.all _ | exact Ext.done | apply Ext.take | apply Ext.skip)))) ?_
        refine dr_light rfl rfl (wtd_none rfl) (x_fieldAddr fd28_3 rfl) ?_
        refine dr_mem0 rfl rfl (wtd_none rfl) (x_load ag2 rfl (cells_ext (by repeat (first | exact List.mem_cons_self | apply List.mem_cons_of_mem | apply List.mem_append_right)) (by repeat (first | exact Ext.all _ | exact Ext.done | apply Ext.take | apply Ext.skip)))) ?_
        refine dr_callq0 rfl rfl (wtd_none rfl) (opS_F rfl rfl rfl rfl cl29 ((halves29_s _ _ (by omega)))) (⟨_, rfl⟩) ?_
        rintro _ rfl
        refine dr_light rfl rfl (wtd_none rfl) (x_mul' rfl rfl (i64w (by omega) (by omega))) ?_
        refine dr_light rfl rfl (wtd_none rfl) (x_fieldAddr fd42_5 rfl) ?_
        refine dr_mem0 rfl rfl (wtd_none rfl) (x_load ag3 rfl (cells_ext (by repeat (first | exact List.mem_cons_self | apply List.mem_cons_of_mem | apply List.mem_append_right)) (by repeat (first | exact Ext.all _ | exact Ext.done | apply Ext.take | apply Ext.skip)))) ?_
        refine dr_light rfl rfl (wtd_none rfl) (x_fieldAddr fd28_4 rfl) ?_
        refine dr_mem0 rfl rfl (wtd_none rfl) (x_load ag3 rfl (cells_ext (by repeat (first | exact List.mem_cons_self | apply List.mem_cons_of_mem | apply List.mem_append_right)) (by repeat (first | exact Ext.all _ | exact Ext.done | apply Ext.take | apply Ext.skip)))) ?_
        refine dr_callq0 rfl rfl (wtd_none rfl) (opS_F rfl rfl rfl rfl cl54 ((hold_s _ _ _ (by omega)))) (⟨_, rfl⟩) ?_
        rintro _ rfl
        refine dr_light rfl rfl (wtd_none rfl) (x_mul' rfl rfl (i64w (by omega) (by omega))) ?_
        refine dr_light rfl rfl (wtd_none rfl) (x_build zr44 rfl fl44 (by repeat (first | exact Parts.nil | (apply Parts.cons; rfl))) (by repeat (first | exact Fill.done | (apply Fill.part; rfl; rfl; rfl; focus (repeat (first | exact Spl.done | exact Spl.all rfl | apply Spl.put | apply Spl.skip)))))) ?_
        refine dr_store0 rfl rfl (wtd_none rfl) (x_store sz44 rfl rfl rfl rfl rfl (by repeat (first | exact Repl.here | apply Repl.there | apply Repl.app)) (by repeat (first | exact Spl.done | exact Spl.all rfl | apply Spl.put | apply Spl.skip))) (by first | rfl | simp [keys_append, keys_cons]) ?_
        refine dr_nil0 ?_
        refine aw_keep (keep_cons (t := 6) rfl keep_nil) ?_
        refine aw_ret ?_
        show ∃ v H2, ResV _ _ _ _ _ _ v ∧ Sub H2 _ ∧ _
        exact ⟨_, H, resV rfl (.cons (⟨_, rfl, fun hw => rd_loadVarN ag44 sz44 hw (cells_ext (by repeat (first | exact List.mem_cons_self | apply List.mem_cons_of_mem | apply List.mem_append_right)) (by repeat (first | exact Ext.all _ | exact Ext.done | apply Ext.take | apply Ext.skip))) rfl⟩) .nil), (by repeat (first | exact Sub.refl _ | apply Sub.drop)), ⟨by first | (rw [ofP, if_pos hRr]; exact part_eq (by dsimp only; first | (rw [show max w 0 = w by omega]; omega) | (rw [show max w 0 = 0 by omega]; omega)) rfl rfl rfl) | (rw [ofP, if_neg (fun q => (nomatch hr.2 q))]; rfl), rfl⟩⟩
    · refine sr_nil ?_
      refine aw_keep (keep_cons (t := 2) rfl (keep_cons (t := 3) rfl (keep_cons (t := 4) rfl (keep_cons (t := 6) rfl (keep_cons (t := 13) rfl keep_nil))))) ?_
      refine aw_false rfl ?_
      refine aw_skip ?_
      show AW _ _ _ _ _ _ _
      refine aw_seq_dr ⟨_, 8, 48, [[], [0], [], [], [3], [2, 3, 4], [0, 1, 2, 3, 4, 5], [0, 1, 2, 3, 4, 5, 6]], [.light, .mem, .light, .light, .mem, .light, .call, .light]⟩ (by kernel_rfl) rfl rfl mix ?_
      have hRr := hr.1 rfl
      have hRr2 := hRr
      obtain ⟨h0, h1', h2', h3', h4', h5'⟩ := hRr2
      first | have hq := tdiv_bd2 (a := w) (n := r.unit) (by omega) (by omega) | have hq := tdiv_bd2 (a := 0) (n := r.unit) (by omega) (by omega)
      refine dr_light rfl rfl (wtd_none rfl) (x_fieldAddr fd42_0 rfl) ?_
      refine dr_mem0 rfl rfl (wtd_none rfl) (x_load ag3 rfl (cells_ext (by repeat (first | exact List.mem_cons_self | apply List.mem_cons_of_mem | apply List.mem_append_right)) (by repeat (first | exact Ext.all _ | exact Ext.done | apply Ext.take | apply Ext.skip)))) ?_
      refine dr_light rfl rfl (wtd_none rfl) (x_move rfl) ?_
      refine dr_light rfl rfl (wtd_none rfl) (x_fieldAddr fd42_1 rfl) ?_
      refine dr_mem0 rfl rfl (wtd_none rfl) (x_load ag2 rfl (cells_ext (by repeat (first | exact List.mem_cons_self | apply List.mem_cons_of_mem | apply List.mem_append_right)) (by repeat (first | exact Ext.all _ | exact Ext.done | apply Ext.take | apply Ext.skip)))) ?_
      refine dr_light rfl rfl (wtd_none rfl) (x_quo' rfl rfl (by omega) (i64w (by omega) (by omega))) ?_
      refine dr_callq0 rfl rfl (wtd_none rfl) (opS_F rfl rfl rfl rfl cl53 ((satMul_s _ _ _))) (⟨_, rfl⟩) ?_
      rintro _ rfl
      refine dr_light rfl rfl (wtd_none rfl) (x_assign rfl) ?_
      refine dr_nil0 ?_
      refine aw_keep (keep_cons (t := 3) rfl (keep_cons (t := 4) rfl (keep_cons (t := 6) rfl (keep_cons (t := 7) rfl keep_nil)))) ?_
      refine aw_seq ?_
      refine aw_seq_region ?_
      refine sr_x rfl (wtd_none rfl) rfl (Rd.x (x_move rfl)) ?_
      refine sr_x rfl (wtd_none rfl) rfl (Rd.x (x_fieldAddr fd42_2 rfl)) ?_
      refine sr_x rfl (wtd_none rfl) rfl (Rd.x (x_load ag3 rfl (cells_ext (by repeat (first | exact List.mem_cons_self | apply List.mem_cons_of_mem | apply List.mem_append_right)) (by repeat (first | exact Ext.all _ | exact Ext.done | apply Ext.take | apply Ext.skip))))) ?_
      refine sr_cmp rfl (wtd_none rfl) rfl (Rd.x (x_gt rfl rfl)) (fun h3 => ?_) (fun h3 => ?_)
      · refine sr_nil ?_
        refine aw_keep (keep_cons (t := 3) rfl (keep_cons (t := 4) rfl (keep_cons (t := 6) rfl (keep_cons (t := 7) rfl (keep_cons (t := 24) rfl keep_nil))))) ?_
        refine aw_true rfl ?_
        refine aw_region ?_
        refine sr_x rfl (wtd_none rfl) rfl (Rd.x (x_fieldAddr fd42_2 rfl)) ?_
        refine sr_x rfl (wtd_none rfl) rfl (Rd.x (x_load ag3 rfl (cells_ext (by repeat (first | exact List.mem_cons_self | apply List.mem_cons_of_mem | apply List.mem_append_right)) (by repeat (first | exact Ext.all _ | exact Ext.done | apply Ext.take | apply Ext.skip))))) ?_
        refine sr_x rfl (wtd_none rfl) rfl (Rd.x (x_assign rfl)) ?_
        refine sr_nil ?_
        show AW _ _ _ _ _ _ _
        refine aw_seq_dr ⟨_, 22, 48, [[], [], [1], [], [3], [3, 4], [3, 4, 5], [1, 2, 3, 4, 5, 6], [], [8], [], [10], [3, 4, 5, 10, 11], [3, 4, 5, 8, 9, 10, 11, 12], [], [14], [], [16], [3, 4, 5, 10, 11, 12, 16, 17], [3, 4, 5, 10, 11, 12, 14, 15, 16, 17, 18], [0, 1, 2, 3, 4, 5, 6, 7, 8, 9, 10, 11, 12, 13, 14, 15, 16, 17, 18, 19], [0, 1, 2, 3, 4, 5, 6, 7, 8, 9, 10, 11, 12, 13, 14, 15, 16, 17, 18, 19, 20]], [.light, .light, .mem, .light, .mem, .call, .light, .light, .light, .mem, .light, .mem, .call, .light, .light, .mem, .light, .mem, .call, .light, .light, .eff]⟩ (by kernel_rfl) rfl rfl mix ?_
        have g2 := mul_bd h2'.1 h2'.2 (b := 64 - min (max j.width 0) 64) (n := 64) (by omega) (by omega)
        have hhv := halv_le (max j.limit 1)
        have g3 := mul_bd h3'.1 h3'.2 (b := (halv (max j.limit 1) : Int)) (n := 1048576) (by omega) (by omega)
        have g4 := mul_bd h4'.1 h4'.2 (b := min (max j.prio 0) 1000) (n := 1000) (by omega) (by omega)
        refine dr_light rfl rfl (wtd_none rfl) (x_move rfl) ?_
        refine dr_light rfl rfl (wtd_none rfl) (x_fieldAddr fd42_3 rfl) ?_
        refine dr_mem0 rfl rfl (wtd_none rfl) (x_load ag3 rfl (cells_ext (by repeat (first | exact List.mem_cons_self | apply List.mem_cons_of_mem | apply List.mem_append_right)) (by repeat (first | exact Ext.all _ | exact Ext.done | apply Ext.take | apply Ext.skip)))) ?_
        refine dr_light rfl rfl (wtd_none rfl) (x_fieldAddr fd28_2 rfl) ?_
        refine dr_mem0 rfl rfl (wtd_none rfl) (x_load ag3 rfl (cells_ext (by repeat (first | exact List.mem_cons_self | apply List.mem_cons_of_mem | apply List.mem_append_right)) (by repeat (first | exact Ext.all _ | exact Ext.done | apply Ext.take | apply Ext.skip)))) ?_
        refine dr_callq0 rfl rfl (wtd_none rfl) (opS_F rfl rfl rfl rfl cl54 ((hold_s _ _ _ (by omega)))) (⟨_, rfl⟩) ?_
        rintro _ rfl
        refine dr_light rfl rfl (wtd_none rfl) (x_sub' rfl rfl (i64w (by omega) (by omega))) ?_
        refine dr_light rfl rfl (wtd_none rfl) (x_mul' rfl rfl (i64w (by omega) (by omega))) ?_
        refine dr_light rfl rfl (wtd_none rfl) (x_fieldAddr fd42_4 rfl) ?_
        refine dr_mem0 rfl rfl (wtd_none rfl) (x_load ag3 rfl (cells_ext (by repeat (first | exact List.mem_cons_self | apply List.mem_cons_of_mem | apply List.mem_append_right)) (by repeat (first | exact Ext.all _ | exact Ext.done | apply Ext.take | apply Ext.skip)))) ?_
        refine dr_light rfl rfl (wtd_none rfl) (x_fieldAddr fd28_3 rfl) ?_
        refine dr_mem0 rfl rfl (wtd_none rfl) (x_load ag2 rfl (cells_ext (by repeat (first | exact List.mem_cons_self | apply List.mem_cons_of_mem | apply List.mem_append_right)) (by repeat (first | exact Ext.all _ | exact Ext.done | apply Ext.take | apply Ext.skip)))) ?_
        refine dr_callq0 rfl rfl (wtd_none rfl) (opS_F rfl rfl rfl rfl cl29 ((halves29_s _ _ (by omega)))) (⟨_, rfl⟩) ?_
        rintro _ rfl
        refine dr_light rfl rfl (wtd_none rfl) (x_mul' rfl rfl (i64w (by omega) (by omega))) ?_
        refine dr_light rfl rfl (wtd_none rfl) (x_fieldAddr fd42_5 rfl) ?_
        refine dr_mem0 rfl rfl (wtd_none rfl) (x_load ag3 rfl (cells_ext (by repeat (first | exact List.mem_cons_self | apply List.mem_cons_of_mem | apply List.mem_append_right)) (by repeat (first | exact Ext.all _ | exact Ext.done | apply Ext.take | apply Ext.skip)))) ?_
        refine dr_light rfl rfl (wtd_none rfl) (x_fieldAddr fd28_4 rfl) ?_
        refine dr_mem0 rfl rfl (wtd_none rfl) (x_load ag3 rfl (cells_ext (by repeat (first | exact List.mem_cons_self | apply List.mem_cons_of_mem | apply List.mem_append_right)) (by repeat (first | exact Ext.all _ | exact Ext.done | apply Ext.take | apply Ext.skip)))) ?_
        refine dr_callq0 rfl rfl (wtd_none rfl) (opS_F rfl rfl rfl rfl cl54 ((hold_s _ _ _ (by omega)))) (⟨_, rfl⟩) ?_
        rintro _ rfl
        refine dr_light rfl rfl (wtd_none rfl) (x_mul' rfl rfl (i64w (by omega) (by omega))) ?_
        refine dr_light rfl rfl (wtd_none rfl) (x_build zr44 rfl fl44 (by repeat (first | exact Parts.nil | (apply Parts.cons; rfl))) (by repeat (first | exact Fill.done | (apply Fill.part; rfl; rfl; rfl; focus (repeat (first | exact Spl.done | exact Spl.all rfl | apply Spl.put | apply Spl.skip)))))) ?_
        refine dr_store0 rfl rfl (wtd_none rfl) (x_store sz44 rfl rfl rfl rfl rfl (by repeat (first | exact Repl.here | apply Repl.there | apply Repl.app)) (by repeat (first | exact Spl.done | exact Spl.all rfl | apply Spl.put | apply Spl.skip))) (by first | rfl | simp [keys_append, keys_cons]) ?_
        refine dr_nil0 ?_
        refine aw_keep (keep_cons (t := 6) rfl keep_nil) ?_
        refine aw_ret ?_
        show ∃ v H2, ResV _ _ _ _ _ _ v ∧ Sub H2 _ ∧ _
        exact ⟨_, H, resV rfl (.cons (⟨_, rfl, fun hw => rd_loadVarN ag44 sz44 hw (cells_ext (by repeat (first | exact List.mem_cons_self | apply List.mem_cons_of_mem | apply List.mem_append_right)) (by repeat (first | exact Ext.all _ | exact Ext.done | apply Ext.take | apply Ext.skip))) rfl⟩) .nil), (by repeat (first | exact Sub.refl _ | apply Sub.drop)), ⟨by first | (rw [ofP, if_pos hRr]; exact part_eq (by dsimp only; first | (rw [show max w 0 = w by omega]; omega) | (rw [show max w 0 = 0 by omega]; omega)) rfl rfl rfl) | (rw [ofP, if_neg (fun q => (nomatch hr.2 q))]; rfl), rfl⟩⟩
      · refine sr_nil ?_
        refine aw_keep (keep_cons (t := 3) rfl (keep_cons (t := 4) rfl (keep_cons (t := 6) rfl (keep_cons (t := 7) rfl (keep_cons (t := 24) rfl keep_nil))))) ?_
        refine aw_false rfl ?_
        refine aw_skip ?_
        show AW _ _ _ _ _ _ _
        refine aw_seq_dr ⟨_, 22, 48, [[], [], [1], [], [3], [3, 4], [3, 4, 5], [1, 2, 3, 4, 5, 6], [], [8], [], [10], [3, 4, 5, 10, 11], [3, 4, 5, 8, 9, 10, 11, 12], [], [14], [], [16], [3, 4, 5, 10, 11, 12, 16, 17], [3, 4, 5, 10, 11, 12, 14, 15, 16, 17, 18], [0, 1, 2, 3, 4, 5, 6, 7, 8, 9, 10, 11, 12, 13, 14, 15, 16, 17, 18, 19], [0, 1, 2, 3, 4, 5, 6, 7, 8, 9, 10, 11, 12, 13, 14, 15, 16, 17, 18, 19, 20]], [.light, .light, .mem, .light, .mem, .call, .light, .light, .light, .mem, .light, .mem, .call, .light, .light, .mem, .light, .mem, .call, .light, .light, .eff]⟩ (by kernel_rfl) rfl rfl mix ?_
        have g2 := mul_bd h2'.1 h2'.2 (b := 64 - min (max j.width 0) 64) (n := 64) (by omega) (by omega)
        have hhv := halv_le (max j.limit 1)
        have g3 := mul_bd h3'.1 h3'.2 (b := (halv (max j.limit 1) : Int)) (n := 1048576) (by omega) (by omega)
        have g4 := mul_bd h4'.1 h4'.2 (b := min (max j.prio 0) 1000) (n := 1000) (by omega) (by omega)
        refine dr_light rfl rfl (wtd_none rfl) (x_move rfl) ?_
        refine dr_light rfl rfl (wtd_none rfl) (x_fieldAddr fd42_3 rfl) ?_
        refine dr_mem0 rfl rfl (wtd_none rfl) (x_load ag3 rfl (cells_ext (by repeat (first | exact List.mem_cons_self | apply List.mem_cons_of_mem | apply List.mem_append_right)) (by repeat (first | exact Ext.all _ | exact Ext.done | apply Ext.take | apply Ext.skip)))) ?_
        refine dr_light rfl rfl (wtd_none rfl) (x_fieldAddr fd28_2 rfl) ?_
        refine dr_mem0 rfl rfl (wtd_none rfl) (x_load ag3 rfl (cells_ext (by repeat (first | exact List.mem_cons_self | apply List.mem_cons_of_mem | apply List.mem_append_right)) (by repeat (first | exact Ext.all _ | exact Ext.done | apply Ext.take | apply Ext.skip)))) ?_
        refine dr_callq0 rfl rfl (wtd_none rfl) (opS_F rfl rfl rfl rfl cl54 ((hold_s _ _ _ (by omega)))) (⟨_, rfl⟩) ?_
        rintro _ rfl
        refine dr_light rfl rfl (wtd_none rfl) (x_sub' rfl rfl (i64w (by omega) (by omega))) ?_
        refine dr_light rfl rfl (wtd_none rfl) (x_mul' rfl rfl (i64w (by omega) (by omega))) ?_
        refine dr_light rfl rfl (wtd_none rfl) (x_fieldAddr fd42_4 rfl) ?_
        refine dr_mem0 rfl rfl (wtd_none rfl) (x_load ag3 rfl (cells_ext (by repeat (first | exact List.mem_cons_self | apply List.mem_cons_of_mem | apply List.mem_append_right)) (by repeat (first | exact Ext.all _ | exact Ext.done | apply Ext.take | apply Ext.skip)))) ?_
        refine dr_light rfl rfl (wtd_none rfl) (x_fieldAddr fd28_3 rfl) ?_
        refine dr_mem0 rfl rfl (wtd_none rfl) (x_load ag2 rfl (cells_ext (by repeat (first | exact List.mem_cons_self | apply List.mem_cons_of_mem | apply List.mem_append_right)) (by repeat (first | exact Ext.all _ | exact Ext.done | apply Ext.take | apply Ext.skip)))) ?_
        refine dr_callq0 rfl rfl (wtd_none rfl) (opS_F rfl rfl rfl rfl cl29 ((halves29_s _ _ (by omega)))) (⟨_, rfl⟩) ?_
        rintro _ rfl
        refine dr_light rfl rfl (wtd_none rfl) (x_mul' rfl rfl (i64w (by omega) (by omega))) ?_
        refine dr_light rfl rfl (wtd_none rfl) (x_fieldAddr fd42_5 rfl) ?_
        refine dr_mem0 rfl rfl (wtd_none rfl) (x_load ag3 rfl (cells_ext (by repeat (first | exact List.mem_cons_self | apply List.mem_cons_of_mem | apply List.mem_append_right)) (by repeat (first | exact Ext.all _ | exact Ext.done | apply Ext.take | apply Ext.skip)))) ?_
        refine dr_light rfl rfl (wtd_none rfl) (x_fieldAddr fd28_4 rfl) ?_
        refine dr_mem0 rfl rfl (wtd_none rfl) (x_load ag3 rfl (cells_ext (by repeat (first | exact List.mem_cons_self | apply List.mem_cons_of_mem | apply List.mem_append_right)) (by repeat (first | exact Ext.all _ | exact Ext.done | apply Ext.take | apply Ext.skip)))) ?_
        refine dr_callq0 rfl rfl (wtd_none rfl) (opS_F rfl rfl rfl rfl cl54 ((hold_s _ _ _ (by omega)))) (⟨_, rfl⟩) ?_
        rintro _ rfl
        refine dr_light rfl rfl (wtd_none rfl) (x_mul' rfl rfl (i64w (by omega) (by omega))) ?_
        refine dr_light rfl rfl (wtd_none rfl) (x_build zr44 rfl fl44 (by repeat (first | exact Parts.nil | (apply Parts.cons; rfl))) (by repeat (first | exact Fill.done | (apply Fill.part; rfl; rfl; rfl; focus (repeat (first | exact Spl.done | exact Spl.all rfl | apply Spl.put | apply Spl.skip)))))) ?_
        refine dr_store0 rfl rfl (wtd_none rfl) (x_store sz44 rfl rfl rfl rfl rfl (by repeat (first | exact Repl.here | apply Repl.there | apply Repl.app)) (by repeat (first | exact Spl.done | exact Spl.all rfl | apply Spl.put | apply Spl.skip))) (by first | rfl | simp [keys_append, keys_cons]) ?_
        refine dr_nil0 ?_
        refine aw_keep (keep_cons (t := 6) rfl keep_nil) ?_
        refine aw_ret ?_
        show ∃ v H2, ResV _ _ _ _ _ _ v ∧ Sub H2 _ ∧ _
        exact ⟨_, H, resV rfl (.cons (⟨_, rfl, fun hw => rd_loadVarN ag44 sz44 hw (cells_ext (by repeat (first | exact List.mem_cons_self | apply List.mem_cons_of_mem | apply List.mem_append_right)) (by repeat (first | exact Ext.all _ | exact Ext.done | apply Ext.take | apply Ext.skip))) rfl⟩) .nil), (by repeat (first | exact Sub.refl _ | apply Sub.drop)), ⟨by first | (rw [ofP, if_pos hRr]; exact part_eq (by dsimp only; first | (rw [show max w 0 = w by omega]; omega) | (rw [show max w 0 = 0 by omega]; omega)) rfl rfl rfl) | (rw [ofP, if_neg (fun q => (nomatch hr.2 q))]; rfl), rfl⟩⟩
set_option maxRecDepth 100000 in
set_option maxHeartbeats 400000 in
theorem awake31_s (H : SHeap) : AC Try.prog W0 31 [] H (fun v H' => v = .bool true ∧ H' = H) := by
  refine ac_of Try.func31 rfl rfl rfl ?_
  refine aw_seq_region ?_
  refine sr_x rfl (wtd_none rfl) rfl (Rd.x (x_assign rfl)) ?_
  refine sr_nil ?_
  refine aw_keep (keep_cons (t := 0) rfl keep_nil) ?_
  refine aw_seq_region ?_
  refine sr_d rfl (wtd_none rfl) rfl (opS_call rfl rfl rfl rfl cl30 (plain_s _)) ?_
  rintro _ H ⟨rfl, rfl⟩
  refine sr_x rfl (wtd_none rfl) rfl (Rd.x (x_build zr28 rfl fl28 (by repeat (first | exact Parts.nil | (apply Parts.cons; rfl))) (by repeat (first | exact Fill.done | (apply Fill.part; rfl; rfl; rfl; focus (repeat (first | exact Spl.done | exact Spl.all rfl | apply Spl.put | apply Spl.skip))))))) ?_
  refine sr_d rfl (wtd_none rfl) rfl (opS_call rfl rfl rfl rfl cl23 (of_s ⟨0, 1, 0, 0, 0, 1⟩ ⟨0, 0, 0, 0, 7, 0, 0, 0, 0, 0⟩ _ _ (by unfold Job.Wf; decide) (by omega))) ?_
  rintro _ H ⟨rfl, rfl⟩
  refine sr_d rfl (wtd_none rfl) rfl (opS_call rfl rfl rfl rfl cl27 (sum_s _ _)) ?_
  rintro _ H ⟨rfl, rfl⟩
  refine sr_cmp rfl (wtd_none rfl) rfl (Rd.x (x_eq rfl rfl)) (fun h1 => ?_) (fun h1 => ?_)
  · refine sr_x rfl (wtd_none rfl) rfl (Rd.x (x_assign rfl)) ?_
    refine sr_nil ?_
    refine aw_keep (keep_cons (t := 0) rfl keep_nil) ?_
    refine aw_ret ?_
    show ∃ v H2, ResV _ _ _ _ _ _ v ∧ Sub H2 _ ∧ _
    exact ⟨_, H, resV rfl (.cons rfl .nil), (by repeat (first | exact Sub.refl _ | apply Sub.drop)), (by first | exact ⟨rfl, rfl⟩ | exact absurd aw31 (by assumption))⟩
  · refine sr_x rfl (wtd_none rfl) rfl (Rd.x (x_assign rfl)) ?_
    refine sr_nil ?_
    refine aw_keep (keep_cons (t := 0) rfl keep_nil) ?_
    refine aw_ret ?_
    show ∃ v H2, ResV _ _ _ _ _ _ v ∧ Sub H2 _ ∧ _
    exact ⟨_, H, resV rfl (.cons rfl .nil), (by repeat (first | exact Sub.refl _ | apply Sub.drop)), (by first | exact ⟨rfl, rfl⟩ | exact absurd aw31 (by assumption))⟩
set_option maxRecDepth 100000 in
set_option maxHeartbeats 400000 in
theorem clamp_s (a b c : Int) (H : SHeap) : AC Try.prog W0 56 [.int .i64 a, .int .i64 b, .int .i64 c] H (fun v H' => v = .int .i64 (max (min a (max b c)) b) ∧ H' = H) := by
  refine ac_of Try.func56 rfl rfl rfl ?_
  refine aw_seq_region ?_
  refine sr_x rfl (wtd_none rfl) rfl (Rd.x (x_assign rfl)) ?_
  refine sr_nil ?_
  refine aw_keep (keep_cons (t := 0) rfl (keep_cons (t := 1) rfl (keep_cons (t := 2) rfl (keep_cons (t := 6) rfl keep_nil)))) ?_
  refine aw_seq_region ?_
  refine sr_x rfl (wtd_none rfl) rfl (Rd.x (x_move rfl)) ?_
  refine sr_x rfl (wtd_none rfl) rfl (Rd.x (x_move rfl)) ?_
  refine sr_x rfl (wtd_none rfl) rfl (Rd.x (x_move rfl)) ?_
  refine sr_x rfl (wtd_none rfl) rfl (Rd.x (x_max rfl rfl)) ?_
  refine sr_x rfl (wtd_none rfl) rfl (Rd.x (x_min rfl rfl)) ?_
  refine sr_x rfl (wtd_none rfl) rfl (Rd.x (x_move rfl)) ?_
  refine sr_x rfl (wtd_none rfl) rfl (Rd.x (x_max rfl rfl)) ?_
  refine sr_x rfl (wtd_none rfl) rfl (Rd.x (x_assign rfl)) ?_
  refine sr_nil ?_
  refine aw_keep (keep_cons (t := 6) rfl keep_nil) ?_
  refine aw_ret ?_
  show ∃ v H2, ResV _ _ _ _ _ _ v ∧ Sub H2 _ ∧ _
  exact ⟨_, H, resV rfl (.cons rfl .nil), (by repeat (first | exact Sub.refl _ | apply Sub.drop)), ⟨rfl, rfl⟩⟩
set_option maxRecDepth 100000 in
set_option maxHeartbeats 400000 in
theorem prio_s (a : Int) (H : SHeap) : AC Try.prog W0 32 [.int .i64 a] H (fun v H' => v = .int .i64 (min (max a 0) 1000) ∧ H' = H) := by
  refine ac_of Try.func32 rfl rfl rfl ?_
  refine aw_seq_region ?_
  refine sr_x rfl (wtd_none rfl) rfl (Rd.x (x_assign rfl)) ?_
  refine sr_nil ?_
  refine aw_keep (keep_cons (t := 0) rfl (keep_cons (t := 2) rfl keep_nil)) ?_
  refine aw_seq_region ?_
  refine sr_x rfl (wtd_none rfl) rfl (Rd.x (x_move rfl)) ?_
  refine sr_d rfl (wtd_none rfl) rfl (opS_call rfl rfl rfl rfl cl56 (clamp_s _ _ _ _)) ?_
  rintro _ H ⟨rfl, rfl⟩
  refine sr_x rfl (wtd_none rfl) rfl (Rd.x (x_assign rfl)) ?_
  refine sr_nil ?_
  refine aw_keep (keep_cons (t := 2) rfl keep_nil) ?_
  refine aw_ret ?_
  show ∃ v H2, ResV _ _ _ _ _ _ v ∧ Sub H2 _ ∧ _
  exact ⟨_, H, resV rfl (.cons rfl .nil), (by repeat (first | exact Sub.refl _ | apply Sub.drop)), ⟨congrArg (Value.int .i64) (by omega), rfl⟩⟩
set_option maxRecDepth 100000 in
theorem read_Rule {H : Type} {enc : TypeId × Value → H} {w : World} {base : Nat} {spare : Nat → Bool} {held : Bool} {fuel : Nat} {cs : List Value} {x : DataW H × List MemPlace} (h : DataW.trod enc Try.prog w base spare held fuel 42 cs = some x) : ∃ j : Rule, cs = j.cells ∧ j.Wf := by
  obtain ⟨hlen, n, hf⟩ := read_struct Try.underlying42 h
  rw [cells42] at hlen
  obtain ⟨a0, e0, l0, u0⟩ := read_int Try.underlying3 cells3 (hf 0 _ rfl)
  obtain ⟨a1, e1, l1, u1⟩ := read_int Try.underlying2 cells2 (hf 1 _ rfl)
  obtain ⟨a2, e2, l2, u2⟩ := read_int Try.underlying3 cells3 (hf 2 _ rfl)
  obtain ⟨a3, e3, l3, u3⟩ := read_int Try.underlying3 cells3 (hf 3 _ rfl)
  obtain ⟨a4, e4, l4, u4⟩ := read_int Try.underlying3 cells3 (hf 4 _ rfl)
  obtain ⟨a5, e5, l5, u5⟩ := read_int Try.underlying3 cells3 (hf 5 _ rfl)
  refine ⟨⟨a0, a1, a2, a3, a4, a5⟩, ?_, ⟨l0, u0, l1, u1, l2, u2, l3, u3, l4, u4, l5, u5⟩⟩
  apply List.ext_getElem?
  intro i
  match i with
  | 0 => exact e0
  | 1 => exact e1
  | 2 => exact e2
  | 3 => exact e3
  | 4 => exact e4
  | 5 => exact e5
  | i + 6 => rw [List.getElem?_eq_none (by omega), List.getElem?_eq_none (by simp)]
set_option maxRecDepth 100000 in
theorem open_Rule {H : Type} {enc : TypeId × Value → H} {w : World} {base b0 : Nat} {spare : Nat → Bool} {held : Bool} {v : Value} {d : DataW H} {p : List MemPlace} {r : Reach} (hv : Value.okWide Try.prog w r b0 42 v) (h : DataW.Trod enc Try.prog w base spare held 42 v d p) : ∃ j : Rule, v = j.v ∧ j.Wf := by
  obtain ⟨cs, rfl, _⟩ := Go.WideShapes.okWide_struct Try.underlying42 hv
  obtain ⟨fuel, hf⟩ := h
  obtain ⟨j, h1, h2⟩ := read_Rule hf
  refine ⟨j, ?_, h2⟩
  have : cs = j.cells.toArray := by apply Array.toList_inj.1; exact h1
  rw [this]
end
end Go.Proofs.Ytlhmoojffopheaa
