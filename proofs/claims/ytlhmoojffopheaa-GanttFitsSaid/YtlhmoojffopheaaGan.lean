/- Charts: what the functions of gantt come to, for any jobs. -/
import Derived.Test.YtlhmoojffopheaaOrd
namespace Go.Proofs.Ytlhmoojffopheaa
open Go.Proofs.Ytlhmoojffopheaa.Sym
open Go.RowKit (Below)
set_option linter.unusedVariables false
set_option linter.unusedSimpArgs false
structure Chart where
  from_ : Int
  column : Int
  cols : Int
@[reducible] def Chart.cells (j : Chart) : List Value := [.int .i64 j.from_, .int .i64 j.column, .int .i64 j.cols]
@[reducible] def Chart.v (j : Chart) : Value := .agg (Chart.cells j).toArray
def Chart.Wf (j : Chart) : Prop := IntKind.min .i64 ≤ j.from_ ∧ j.from_ ≤ IntKind.max .i64 ∧ IntKind.min .i64 ≤ j.column ∧ j.column ≤ IntKind.max .i64 ∧ IntKind.min .i64 ≤ j.cols ∧ j.cols ≤ IntKind.max .i64
def hasB (s n : Int) : Bool := decide (0 ≤ n) && decide (n < 64) && s.toNat.testBit n.toNat
theorem bit1 (a n : Nat) : ((a >>> n &&& 1 : Nat) : Int) = 1 ↔ a.testBit n = true := by
  rw [Nat.testBit, Nat.and_comm]
  simp only [bne_iff_ne, ne_eq]
  have : 1 &&& a >>> n < 2 := by
    rw [Nat.and_comm, Nat.and_one_is_mod]; omega
  omega
def hit (a b : Job) : Prop := ((a.nodes.toNat &&& b.nodes.toNat : Nat) : Int) ≠ 0 ∧ 0 ≤ a.start ∧ 0 ≤ b.start ∧ max a.start b.start < min a.fin b.fin
/-- The places k < i are the first two that clash. -/
def FirstHit (xs : List Job) (k i : Nat) : Prop :=
  (∃ x y, xs[k]? = some x ∧ xs[i]? = some y ∧ k < i ∧ hit y x) ∧ ∀ (k' i' : Nat) (x y : Job), xs[k']? = some x → xs[i']? = some y → k' < i' → (i' < i ∨ (i' = i ∧ k' < k)) → ¬ hit y x
def NoHit (xs : List Job) : Prop := ∀ (k' i' : Nat) (x y : Job), xs[k']? = some x → xs[i']? = some y → k' < i' → ¬ hit y x
theorem tm26 (a : Int) : -25 ≤ a.tmod 26 ∧ a.tmod 26 ≤ 25 := by
  have h1 := Int.tmod_lt_of_pos a (show (0 : Int) < 26 by omega)
  have h2 := Int.lt_tmod_of_pos a (show (0 : Int) < 26 by omega)
  omega
theorem sign_eq (a : Int) : (a.tmod 26 + 26).tmod 26 = a % 26 := by
  have h := tm26 a
  rw [Int.tmod_eq_emod_of_nonneg (by omega)]
  have h2 := Int.tmod_add_mul_tdiv a 26
  omega
def signB (id : Int) : UInt8 := UInt8.ofNat (97 + (id % 26).toNat)
theorem signB_val (id : Int) : ((signB id).toNat : Int) = 97 + id % 26 := by
  unfold signB
  have h : (97 + (id % 26).toNat) < 256 := by omega
  rw [UInt8.toNat_ofNat_of_lt' h]
  omega
def hadB (j : Job) (n t : Int) : Bool := decide (0 ≤ j.start) && decide (j.start ≤ t) && decide (t < j.fin) && hasB j.nodes n
def cellB (n t : Int) (xs : List Job) : UInt8 :=
  match xs.find? (fun j => hadB j n t) with
  | some j => signB j.id
  | none => 46
def rowB (c : Chart) (n : Int) (xs : List Job) (k : Nat) : List UInt8 := (List.range k).map fun (i : Nat) => cellB n (c.from_ + (i : Int) * c.column) xs
def Chart.Right (c : Chart) : Prop := 0 ≤ c.from_ ∧ c.from_ ≤ 1099511627776 ∧ 1 ≤ c.column ∧ c.column ≤ 1099511627776 ∧ 1 ≤ c.cols ∧ c.cols ≤ 120
def encB (c : UInt8) : Value := .int .u8 c.toNat
theorem rowB_succ (c : Chart) (n : Int) (xs : List Job) (k : Nat) : rowB c n xs (k + 1) = rowB c n xs k ++ [cellB n (c.from_ + (k : Int) * c.column) xs] := by
  unfold rowB; rw [List.range_succ, List.map_append]; rfl
theorem find_first {xs : List Job} {p : Job → Bool} {i : Nat} {x : Job} (hx : xs[i]? = some x) (hp : p x = true) (h : ∀ k y, k < i → xs[k]? = some y → p y = false) : xs.find? p = some x := by
  induction xs generalizing i with
  | nil => simp at hx
  | cons a l ih =>
    cases i with
    | zero => simp at hx; subst hx; simp [hp]
    | succ i =>
      have ha : p a = false := h 0 a (by omega) rfl
      rw [List.find?_cons, ha]
      exact ih (by simpa using hx) fun k y hk hy => h (k + 1) y (by omega) (by simpa using hy)
theorem find_none' {xs : List Job} {p : Job → Bool} (h : ∀ k y, k < xs.length → xs[k]? = some y → p y = false) : xs.find? p = none := by
  rw [List.find?_eq_none]
  intro x hx
  obtain ⟨i, hi⟩ := List.getElem?_of_mem hx
  have := h i x (by have := (List.getElem?_eq_some_iff.1 hi).1; omega) hi
  simp [this]
/-- The row's cells, k of them done. -/
def Done (c : Chart) (n : Int) (xs : List Job) (k : Nat) (L : List Value) : Prop := L.length = c.cols.toNat ∧ L.take k = (rowB c n xs k).map encB
theorem done_step {c : Chart} {n : Int} {xs : List Job} {k : Nat} {L : List Value} (h : Done c n xs k L) (hk : k < c.cols.toNat) {v : Value} (hv : v = encB (cellB n (c.from_ + (k : Int) * c.column) xs)) : Done c n xs (k + 1) (L.set k v) := by
  obtain ⟨h1, h2⟩ := h
  refine ⟨by simp [h1], ?_⟩
  rw [rowB_succ, List.map_append, ← h2, hv]
  have hlt : k < (L.set k (encB (cellB n (c.from_ + (k : Int) * c.column) xs))).length := by simp [h1]; omega
  rw [List.take_succ_eq_append_getElem hlt]
  congr 1
  · rw [List.take_set_of_le (Nat.le_refl _)]
  · simp
theorem done_step2 {c : Chart} {n : Int} {xs : List Job} {k : Nat} {L : List Value} (h : Done c n xs k L) (hk : k < c.cols.toNat) {u v : Value} (hv : v = encB (cellB n (c.from_ + (k : Int) * c.column) xs)) : Done c n xs (k + 1) ((L.set k u).set k v) := by
  rw [List.set_set]; exact done_step h hk hv
theorem spl_at {cs : List Value} {i : Nat} {v : Value} (h : i < cs.length) : Spl cs (0 + (i : Int).toNat * 1) [v] (cs.set i v) := by
  have e : 0 + (i : Int).toNat * 1 = i := by omega
  rw [e]; exact spl_set h
theorem cells_row {c : Chart} {n : Int} {xs : List Job} {k : Nat} {L : List Value} {W0 : World} {H : SHeap} {r : Nat} (hD : Done c n xs k L) (hk : c.cols.toNat ≤ k) (hk2 : k ≤ c.cols.toNat) (hm : (r, Obj.cells L.toArray 5 (0, 0)) ∈ H) : Cells W0 H r 0 ((rowB c n xs c.cols.toNat).map fun c : UInt8 => .int .u8 c.toNat) := by
  obtain ⟨h1, h2⟩ := hD
  have e : k = c.cols.toNat := by omega
  subst e
  rw [List.take_of_length_le (by omega)] at h2
  have h3 : L = (rowB c n xs c.cols.toNat).map fun c : UInt8 => .int .u8 c.toNat := h2
  rw [← h3]
  exact cells_ext hm (by have := Ext.all L; exact this)
theorem ag2 : aggOf Try.prog 2 = some false := by kernel_rfl
theorem ag26 : aggOf Try.prog 26 = some false := by kernel_rfl
theorem ag36 : aggOf Try.prog 36 = some true := by kernel_rfl
theorem by5 : bytesOf Try.prog 5 = some 1 := by kernel_rfl
theorem cl15 : Callable Try.prog 15 := ⟨Try.f15, Try.func15, by kernel_rfl, by kernel_rfl⟩
theorem cl33 : Callable Try.prog 33 := ⟨Try.f33, Try.func33, by kernel_rfl, by kernel_rfl⟩
theorem cl38 : Callable Try.prog 38 := ⟨Try.f38, Try.func38, by kernel_rfl, by kernel_rfl⟩
theorem cl57 : Callable Try.prog 57 := ⟨Try.f57, Try.func57, by kernel_rfl, by kernel_rfl⟩
theorem cl58 : Callable Try.prog 58 := ⟨Try.f58, Try.func58, by kernel_rfl, by kernel_rfl⟩
theorem fd28_6 : fldOf Try.prog 28 6 = some (6, 2, 1) := by kernel_rfl
theorem fd28_7 : fldOf Try.prog 28 7 = some (7, 2, 1) := by kernel_rfl
theorem fd28_9 : fldOf Try.prog 28 9 = some (9, 26, 1) := by kernel_rfl
theorem fd36_0 : fldOf Try.prog 36 0 = some (0, 2, 1) := by kernel_rfl
theorem fd36_1 : fldOf Try.prog 36 1 = some (1, 2, 1) := by kernel_rfl
theorem fd36_2 : fldOf Try.prog 36 2 = some (2, 3, 1) := by kernel_rfl
theorem sz36 : szOf Try.prog 36 = some 3 := by kernel_rfl
theorem sz5 : szOf Try.prog 5 = some 1 := by kernel_rfl
theorem zr5 : zeroOf Try.prog 5 = some (.int .u8 0) := by kernel_rfl
section
variable {W0 : World}
set_option maxRecDepth 100000 in
set_option maxHeartbeats 400000 in
theorem has_s (s n : Int) (H : SHeap) (h0 : 0 ≤ s ∧ s ≤ 18446744073709551615) : AC Try.prog W0 15 [.int .u64 s, .int .i64 n] H (fun v H' => (∃ c : Bool, v = .bool c ∧ c = hasB s n) ∧ H' = H) := by
  refine ac_of Try.func15 rfl rfl rfl ?_
  refine aw_seq_region ?_
  refine sr_x rfl (wtd_none rfl) rfl (Rd.x (x_assign rfl)) ?_
  refine sr_nil ?_
  refine aw_keep (keep_cons (t := 0) rfl (keep_cons (t := 1) rfl (keep_cons (t := 4) rfl keep_nil))) ?_
  refine aw_seq_region ?_
  refine sr_x rfl (wtd_none rfl) rfl (Rd.x (x_move rfl)) ?_
  refine sr_cmp rfl (wtd_none rfl) rfl (Rd.x (x_ge rfl rfl)) (fun h1 => ?_) (fun h1 => ?_)
  · refine sr_x rfl (wtd_none rfl) rfl (Rd.x (x_move rfl)) ?_
    refine sr_x rfl (wtd_yes rfl rfl rfl) rfl (Rd.x (x_move rfl)) ?_
    refine sr_cmp rfl (wtd_yes rfl rfl rfl) rfl (Rd.x (x_lt rfl rfl)) (fun h2 => ?_) (fun h2 => ?_)
    · refine sr_x rfl (wtd_none rfl) rfl (Rd.x (x_pick_t rfl rfl rfl)) ?_
      refine sr_x rfl (wtd_none rfl) rfl (Rd.x (x_move rfl)) ?_
      refine sr_x rfl (wtd_yes rfl rfl rfl) rfl (Rd.x (x_move rfl)) ?_
      refine sr_x rfl (wtd_yes rfl rfl rfl) rfl (Rd.x (x_move rfl)) ?_
      refine sr_x rfl (wtd_yes rfl rfl rfl) rfl (Rd.x (x_shrU rfl rfl (by omega) (by omega))) ?_
      refine sr_x rfl (wtd_yes rfl rfl rfl) rfl (Rd.x (x_cast (u := .int .u64 ((s.toNat >>> n.toNat &&& 1 : Nat) : Int)) (x_andU rfl rfl (by have := Nat.shiftRight_le s.toNat n.toNat; generalize s.toNat >>> n.toNat = m at *; omega) (by omega)) rfl)) ?_
      refine sr_cmp rfl (wtd_yes rfl rfl rfl) rfl (Rd.x (x_eq rfl rfl)) (fun h3 => ?_) (fun h3 => ?_)
      · refine sr_x rfl (wtd_none rfl) rfl (Rd.x (x_pick_t rfl rfl rfl)) ?_
        refine sr_x rfl (wtd_none rfl) rfl (Rd.x (x_assign rfl)) ?_
        refine sr_nil ?_
        refine aw_keep (keep_cons (t := 4) rfl keep_nil) ?_
        refine aw_ret ?_
        show ∃ v H2, ResV _ _ _ _ _ _ v ∧ Sub H2 _ ∧ _
        exact ⟨_, H, resV rfl (.cons rfl .nil), (by repeat (first | exact Sub.refl _ | apply Sub.drop)), ⟨⟨_, rfl, by first | (have hb := (bit1 s.toNat n.toNat).1 (by assumption); simp [hasB, hb]; omega) | (have hb := mt (bit1 s.toNat n.toNat).2 (by assumption); simp [hasB]; intros; simpa using hb) | (simp [hasB]; omega)⟩, rfl⟩⟩
      · refine sr_x rfl (wtd_none rfl) rfl (Rd.x (x_pick_t rfl rfl rfl)) ?_
        refine sr_x rfl (wtd_none rfl) rfl (Rd.x (x_assign rfl)) ?_
        refine sr_nil ?_
        refine aw_keep (keep_cons (t := 4) rfl keep_nil) ?_
        refine aw_ret ?_
        show ∃ v H2, ResV _ _ _ _ _ _ v ∧ Sub H2 _ ∧ _
        exact ⟨_, H, resV rfl (.cons rfl .nil), (by repeat (first | exact Sub.refl _ | apply Sub.drop)), ⟨⟨_, rfl, by first | (have hb := (bit1 s.toNat n.toNat).1 (by assumption); simp [hasB, hb]; omega) | (have hb := mt (bit1 s.toNat n.toNat).2 (by assumption); simp [hasB]; intros; simpa using hb) | (simp [hasB]; omega)⟩, rfl⟩⟩
    · refine sr_x rfl (wtd_none rfl) rfl (Rd.x (x_pick_t rfl rfl rfl)) ?_
      refine sr_x rfl (wtd_none rfl) rfl (Rd.x (x_move rfl)) ?_
      refine sr_skip rfl (wtd_no rfl rfl rfl rfl) rfl ?_
      refine sr_skip rfl (wtd_no rfl rfl rfl rfl) rfl ?_
      refine sr_skip rfl (wtd_no rfl rfl rfl rfl) rfl ?_
      refine sr_skip rfl (wtd_no rfl rfl rfl rfl) rfl ?_
      refine sr_skip rfl (wtd_no rfl rfl rfl rfl) rfl ?_
      refine sr_x rfl (wtd_none rfl) rfl (Rd.x (x_pick_f rfl rfl rfl)) ?_
      refine sr_x rfl (wtd_none rfl) rfl (Rd.x (x_assign rfl)) ?_
      refine sr_nil ?_
      refine aw_keep (keep_cons (t := 4) rfl keep_nil) ?_
      refine aw_ret ?_
      show ∃ v H2, ResV _ _ _ _ _ _ v ∧ Sub H2 _ ∧ _
      exact ⟨_, H, resV rfl (.cons rfl .nil), (by repeat (first | exact Sub.refl _ | apply Sub.drop)), ⟨⟨_, rfl, by first | (have hb := (bit1 s.toNat n.toNat).1 (by assumption); simp [hasB, hb]; omega) | (have hb := mt (bit1 s.toNat n.toNat).2 (by assumption); simp [hasB]; intros; simpa using hb) | (simp [hasB]; omega)⟩, rfl⟩⟩
  · refine sr_x rfl (wtd_none rfl) rfl (Rd.x (x_move rfl)) ?_
    refine sr_skip rfl (wtd_no rfl rfl rfl rfl) rfl ?_
    refine sr_skip rfl (wtd_no rfl rfl rfl rfl) rfl ?_
    refine sr_x rfl (wtd_none rfl) rfl (Rd.x (x_pick_f rfl rfl rfl)) ?_
    refine sr_x rfl (wtd_none rfl) rfl (Rd.x (x_move rfl)) ?_
    refine sr_skip rfl (wtd_no rfl rfl rfl rfl) rfl ?_
    refine sr_skip rfl (wtd_no rfl rfl rfl rfl) rfl ?_
    refine sr_skip rfl (wtd_no rfl rfl rfl rfl) rfl ?_
    refine sr_skip rfl (wtd_no rfl rfl rfl rfl) rfl ?_
    refine sr_skip rfl (wtd_no rfl rfl rfl rfl) rfl ?_
    refine sr_x rfl (wtd_none rfl) rfl (Rd.x (x_pick_f rfl rfl rfl)) ?_
    refine sr_x rfl (wtd_none rfl) rfl (Rd.x (x_assign rfl)) ?_
    refine sr_nil ?_
    refine aw_keep (keep_cons (t := 4) rfl keep_nil) ?_
    refine aw_ret ?_
    show ∃ v H2, ResV _ _ _ _ _ _ v ∧ Sub H2 _ ∧ _
    exact ⟨_, H, resV rfl (.cons rfl .nil), (by repeat (first | exact Sub.refl _ | apply Sub.drop)), ⟨⟨_, rfl, by first | (have hb := (bit1 s.toNat n.toNat).1 (by assumption); simp [hasB, hb]; omega) | (have hb := mt (bit1 s.toNat n.toNat).2 (by assumption); simp [hasB]; intros; simpa using hb) | (simp [hasB]; omega)⟩, rfl⟩⟩
set_option maxRecDepth 100000 in
set_option maxHeartbeats 400000 in
theorem few_s (a : Option Addr) (cap : Nat) (xs : List Job) (H : SHeap) (hle : xs.length ≤ cap) (hcb : cap ≤ 9223372036854775807) : AC Try.prog W0 13 [.slice a xs.length cap] H (fun v H' => v = .slice a (xs.take 20).length cap ∧ H' = H) := by
  refine ac_of Try.func13 rfl rfl rfl ?_
  refine aw_seq_region ?_
  refine sr_x rfl (wtd_none rfl) rfl (Rd.x (x_assign rfl)) ?_
  refine sr_nil ?_
  refine aw_keep (keep_cons (t := 0) rfl (keep_cons (t := 2) rfl keep_nil)) ?_
  refine aw_seq ?_
  refine aw_seq_region ?_
  refine sr_x rfl (wtd_none rfl) rfl (Rd.x (x_move rfl)) ?_
  refine sr_x rfl (wtd_none rfl) rfl (Rd.x (x_lenSlice Try.underlying22 rfl)) ?_
  refine sr_cmp rfl (wtd_none rfl) rfl (Rd.x (x_gt rfl rfl)) (fun h1 => ?_) (fun h1 => ?_)
  · refine sr_nil ?_
    refine aw_keep (keep_cons (t := 0) rfl (keep_cons (t := 2) rfl (keep_cons (t := 5) rfl keep_nil))) ?_
    refine aw_true rfl ?_
    refine aw_seq_region ?_
    refine sr_x rfl (wtd_none rfl) rfl (Rd.x (x_move rfl)) ?_
    refine sr_x rfl (wtd_none rfl) rfl (Rd.x (x_sliceHi Try.underlying22 sz28 rfl rfl (by omega) (by omega))) ?_
    refine sr_x rfl (wtd_none rfl) rfl (Rd.x (x_assign rfl)) ?_
    refine sr_nil ?_
    refine aw_keep (keep_cons (t := 0) rfl (keep_cons (t := 2) rfl keep_nil)) ?_
    refine aw_ret ?_
    show ∃ v H2, ResV _ _ _ _ _ _ v ∧ Sub H2 _ ∧ _
    exact ⟨_, H, resV rfl (.cons rfl .nil), (by repeat (first | exact Sub.refl _ | apply Sub.drop)), ⟨by simp only [pack, List.length_take]; congr 1; omega, rfl⟩⟩
  · refine sr_nil ?_
    refine aw_keep (keep_cons (t := 0) rfl (keep_cons (t := 2) rfl (keep_cons (t := 5) rfl keep_nil))) ?_
    refine aw_false rfl ?_
    refine aw_skip ?_
    show AW _ _ _ _ _ _ _
    refine aw_seq_region ?_
    refine sr_x rfl (wtd_none rfl) rfl (Rd.x (x_move rfl)) ?_
    refine sr_x rfl (wtd_none rfl) rfl (Rd.x (x_assign rfl)) ?_
    refine sr_nil ?_
    refine aw_keep (keep_cons (t := 2) rfl keep_nil) ?_
    refine aw_ret ?_
    show ∃ v H2, ResV _ _ _ _ _ _ v ∧ Sub H2 _ ∧ _
    exact ⟨_, H, resV rfl (.cons rfl .nil), (by repeat (first | exact Sub.refl _ | apply Sub.drop)), ⟨by simp only [pack, List.length_take]; congr 1; omega, rfl⟩⟩
set_option maxRecDepth 100000 in
set_option maxHeartbeats 400000 in
theorem clash_s (a : Option Addr) (cap : Nat) (xs : List Job) (H : SHeap) (hs : SlV W0 H 10 Job.cells a cap xs) (hwf : ∀ j ∈ xs, j.Wf) : AC Try.prog W0 14 [.slice a xs.length cap] H (fun v H' => (∃ (k i : Nat) (ok : Bool), v = .tuple #[.int .i64 k, .int .i64 i, .bool ok] ∧ (ok = true → FirstHit xs k i) ∧ (ok = false → k = 0 ∧ i = 0 ∧ NoHit xs)) ∧ H' = H) := by
  have hle := hs.le
  have hcb := hs.capb
  refine ac_of Try.func14 rfl rfl rfl ?_
  refine aw_seq_region ?_
  refine sr_x rfl (wtd_none rfl) rfl (Rd.x (x_assign rfl)) ?_
  refine sr_x rfl (wtd_none rfl) rfl (Rd.x (x_assign rfl)) ?_
  refine sr_x rfl (wtd_none rfl) rfl (Rd.x (x_assign rfl)) ?_
  refine sr_nil ?_
  refine aw_keep (keep_cons (t := 0) rfl (keep_cons (t := 2) rfl (keep_cons (t := 3) rfl (keep_cons (t := 4) rfl keep_nil)))) ?_
  refine aw_seq ?_
  refine aw_seq_region ?_
  refine sr_x rfl (wtd_none rfl) rfl (Rd.x (x_move rfl)) ?_
  refine sr_x rfl (wtd_none rfl) rfl (Rd.x (x_lenSlice Try.underlying22 rfl)) ?_
  refine sr_x rfl (wtd_none rfl) rfl (Rd.x (x_move rfl)) ?_
  refine sr_nil ?_
  refine aw_keep (keep_cons (t := 0) rfl (keep_cons (t := 2) rfl (keep_cons (t := 3) rfl (keep_cons (t := 4) rfl (keep_cons (t := 9) rfl (keep_cons (t := 10) rfl (keep_cons (t := 11) rfl keep_nil))))))) ?_
  refine aw_block ?_
  refine aw_loop (ι := Nat) (fun i => i ≤ xs.length ∧ ∀ k' i' x y, xs[k']? = some x → xs[i']? = some y → k' < i' → i' < i → ¬ hit y x) (fun i => [(0, .slice a xs.length cap), (2, .int .i64 0), (3, .int .i64 0), (4, .bool false), (9, .slice a xs.length cap), (10, .int .i64 xs.length), (11, .int .i64 i)]) (fun _ => H) (fun i => xs.length - i) 0 (⟨Nat.zero_le _, fun _ _ _ _ _ _ _ h => by omega⟩) (by repeat (first | exact keep_nil | refine keep_cons rfl ?_)) (by repeat (first | exact Sub.refl _ | apply Sub.drop)) ?_
  intro i hi
  obtain ⟨hi0, hno⟩ := hi
  refine aw_seq_region ?_
  refine sr_cmp rfl (wtd_none rfl) rfl (Rd.x (x_lt rfl rfl)) (fun h1 => ?_) (fun h1 => ?_)
  · refine sr_nil ?_
    refine aw_keep (keep_cons (t := 0) rfl (keep_cons (t := 2) rfl (keep_cons (t := 3) rfl (keep_cons (t := 4) rfl (keep_cons (t := 9) rfl (keep_cons (t := 10) rfl (keep_cons (t := 11) rfl (keep_cons (t := 12) rfl keep_nil)))))))) ?_
    refine aw_seq ?_
    refine aw_true rfl ?_
    refine aw_skip ?_
    show AW _ _ _ _ _ _ _
    refine aw_seq ?_
    refine aw_block ?_
    refine aw_seq_region ?_
    refine sr_x rfl (wtd_none rfl) rfl (Rd.x (x_move rfl)) ?_
    have hi1 : i < xs.length := by omega
    obtain ⟨b1, o1, ha1, hc1⟩ := hs.at_ i _ (List.getElem?_eq_getElem hi1)
    refine sr_x rfl (wtd_none rfl) rfl (Rd.x (x_indexAddrN i Try.underlying22 sz28 rfl ha1 rfl rfl (by omega))) ?_
    refine sr_x rfl (wtd_none rfl) rfl (Rd.x (x_loadN ag28 sz28 rfl (Cells.mono hc1 (by repeat (first | exact Sub.refl _ | apply Sub.drop))) rfl)) ?_
    refine sr_new rfl (wtd_none rfl) rfl (x_alloc zr28 rfl) ?_
    intro r3_3 hr3_3 gr3_3
    refine sr_x rfl (wtd_none rfl) rfl (Rd.x (x_assign rfl)) ?_
    refine sr_x0 rfl (wtd_none rfl) (x_store sz28 rfl rfl rfl rfl rfl (by repeat (first | exact Repl.here | apply Repl.there)) (by repeat (first | exact Spl.done | exact Spl.all rfl | apply Spl.put | apply Spl.skip))) ?_
    refine sr_nil ?_
    refine aw_keep (keep_cons (t := 0) rfl (keep_cons (t := 2) rfl (keep_cons (t := 3) rfl (keep_cons (t := 4) rfl (keep_cons (t := 5) rfl (keep_cons (t := 6) rfl (keep_cons (t := 9) rfl (keep_cons (t := 10) rfl (keep_cons (t := 11) rfl (keep_cons (t := 12) rfl (keep_cons (t := 13) rfl (keep_cons (t := 14) rfl (keep_cons (t := 15) rfl keep_nil))))))))))))) ?_
    refine aw_seq_region ?_
    refine sr_x rfl (wtd_none rfl) rfl (Rd.x (x_move rfl)) ?_
    refine sr_x rfl (wtd_none rfl) rfl (Rd.x (x_move rfl)) ?_
    refine sr_x rfl (wtd_none rfl) rfl (Rd.x (x_sliceHi Try.underlying22 sz28 rfl rfl (by omega) (by omega))) ?_
    refine sr_x rfl (wtd_none rfl) rfl (Rd.x (x_lenSlice Try.underlying22 rfl)) ?_
    refine sr_x rfl (wtd_none rfl) rfl (Rd.x (x_move rfl)) ?_
    refine sr_nil ?_
    refine aw_keep (keep_cons (t := 0) rfl (keep_cons (t := 2) rfl (keep_cons (t := 3) rfl (keep_cons (t := 4) rfl (keep_cons (t := 5) rfl (keep_cons (t := 6) rfl (keep_cons (t := 9) rfl (keep_cons (t := 10) rfl (keep_cons (t := 11) rfl (keep_cons (t := 12) rfl (keep_cons (t := 13) rfl (keep_cons (t := 14) rfl (keep_cons (t := 15) rfl (keep_cons (t := 16) rfl (keep_cons (t := 17) rfl (keep_cons (t := 18) rfl (keep_cons (t := 19) rfl (keep_cons (t := 20) rfl keep_nil)))))))))))))))))) ?_
    refine aw_block ?_
    refine aw_loop (ι := Nat) (fun k => k ≤ i ∧ ∀ k' x y, xs[k']? = some x → xs[i]? = some y → k' < k → ¬ hit y x) (fun k => [(0, .slice a xs.length cap), (2, .int .i64 0), (3, .int .i64 0), (4, .bool false), (9, .slice a xs.length cap), (10, .int .i64 xs.length), (11, .int .i64 i), (5, .int .i64 i), (6, .pointer (some ⟨r3_3, 0, none⟩)), (18, .slice a (i : Int).toNat cap), (19, .int .i64 (i : Int).toNat), (20, .int .i64 k)]) (fun _ => (r3_3, .cells (Job.cells (xs[i]'hi1)).toArray 28 (0, 0)) :: H) (fun k => i - k) 0 (⟨Nat.zero_le _, fun _ _ _ _ _ h => by omega⟩) (by repeat (first | exact keep_nil | refine keep_cons rfl ?_)) (by first | exact Sub.refl _ | exact Sub.keep (Sub.refl _) | exact Sub.drop (Sub.refl _)) ?_
    intro k hk
    obtain ⟨hk0, hnk⟩ := hk
    refine aw_seq_region ?_
    refine sr_cmp rfl (wtd_none rfl) rfl (Rd.x (x_lt rfl rfl)) (fun h2 => ?_) (fun h2 => ?_)
    · refine sr_nil ?_
      refine aw_keep (keep_cons (t := 0) rfl (keep_cons (t := 2) rfl (keep_cons (t := 3) rfl (keep_cons (t := 4) rfl (keep_cons (t := 5) rfl (keep_cons (t := 6) rfl (keep_cons (t := 9) rfl (keep_cons (t := 10) rfl (keep_cons (t := 11) rfl (keep_cons (t := 18) rfl (keep_cons (t := 19) rfl (keep_cons (t := 20) rfl (keep_cons (t := 21) rfl keep_nil))))))))))))) ?_
      refine aw_seq ?_
      refine aw_true rfl ?_
      refine aw_skip ?_
      show AW _ _ _ _ _ _ _
      refine aw_seq ?_
      refine aw_block ?_
      refine aw_seq_region ?_
      refine sr_x rfl (wtd_none rfl) rfl (Rd.x (x_move rfl)) ?_
      have hi2 : k < xs.length := by omega
      obtain ⟨b2, o2, ha2, hc2⟩ := hs.at_ k _ (List.getElem?_eq_getElem hi2)
      refine sr_x rfl (wtd_none rfl) rfl (Rd.x (x_indexAddrN k Try.underlying22 sz28 rfl ha2 rfl rfl (by omega))) ?_
      refine sr_x rfl (wtd_none rfl) rfl (Rd.x (x_loadN ag28 sz28 rfl (Cells.mono hc2 (by repeat (first | exact Sub.refl _ | apply Sub.drop))) rfl)) ?_
      refine sr_new rfl (wtd_none rfl) rfl (x_alloc zr28 rfl) ?_
      intro r6_3 hr6_3 gr6_3
      refine sr_x rfl (wtd_none rfl) rfl (Rd.x (x_assign rfl)) ?_
      refine sr_x0 rfl (wtd_none rfl) (x_store sz28 rfl rfl rfl rfl rfl (by repeat (first | exact Repl.here | apply Repl.there)) (by repeat (first | exact Spl.done | exact Spl.all rfl | apply Spl.put | apply Spl.skip))) ?_
      refine sr_nil ?_
      refine aw_keep (keep_cons (t := 0) rfl (keep_cons (t := 2) rfl (keep_cons (t := 3) rfl (keep_cons (t := 4) rfl (keep_cons (t := 5) rfl (keep_cons (t := 6) rfl (keep_cons (t := 7) rfl (keep_cons (t := 8) rfl (keep_cons (t := 9) rfl (keep_cons (t := 10) rfl (keep_cons (t := 11) rfl (keep_cons (t := 18) rfl (keep_cons (t := 19) rfl (keep_cons (t := 20) rfl (keep_cons (t := 21) rfl (keep_cons (t := 22) rfl (keep_cons (t := 23) rfl (keep_cons (t := 24) rfl keep_nil)))))))))))))))))) ?_
      refine aw_seq_region ?_
      refine sr_x rfl (wtd_none rfl) rfl (Rd.x (x_fieldAddr fd28_9 rfl)) ?_
      refine sr_x rfl (wtd_none rfl) rfl (Rd.x (x_load ag26 rfl (cells_ext (by repeat (first | exact List.mem_cons_self | apply List.mem_cons_of_mem)) (by repeat (first | exact Ext.all _ | exact Ext.done | apply Ext.take | apply Ext.skip))))) ?_
      refine sr_x rfl (wtd_none rfl) rfl (Rd.x (x_fieldAddr fd28_9 rfl)) ?_
      refine sr_x rfl (wtd_none rfl) rfl (Rd.x (x_load ag26 rfl (cells_ext (by repeat (first | exact List.mem_cons_self | apply List.mem_cons_of_mem)) (by repeat (first | exact Ext.all _ | exact Ext.done | apply Ext.take | apply Ext.skip))))) ?_
      refine sr_x rfl (wtd_none rfl) rfl (Rd.x (x_andU rfl rfl (by have hw := hwf _ (List.getElem_mem hi1); unfold Job.Wf at hw; rw [u64_min, u64_max] at hw; omega) (by have hw := hwf _ (List.getElem_mem hi2); unfold Job.Wf at hw; rw [u64_min, u64_max] at hw; omega))) ?_
      refine sr_cmp rfl (wtd_none rfl) rfl (Rd.x (x_ne rfl rfl)) (fun h3 => ?_) (fun h3 => ?_)
      · refine sr_x rfl (wtd_none rfl) rfl (Rd.x (x_move rfl)) ?_
        refine sr_x rfl (wtd_yes rfl rfl rfl) rfl (Rd.x (x_fieldAddr fd28_6 rfl)) ?_
        refine sr_x rfl (wtd_yes rfl rfl rfl) rfl (Rd.x (x_load ag2 rfl (cells_ext (by repeat (first | exact List.mem_cons_self | apply List.mem_cons_of_mem)) (by repeat (first | exact Ext.all _ | exact Ext.done | apply Ext.take | apply Ext.skip))))) ?_
        refine sr_cmp rfl (wtd_yes rfl rfl rfl) rfl (Rd.x (x_ge rfl rfl)) (fun h4 => ?_) (fun h4 => ?_)
        · refine sr_x rfl (wtd_none rfl) rfl (Rd.x (x_pick_t rfl rfl rfl)) ?_
          refine sr_x rfl (wtd_none rfl) rfl (Rd.x (x_move rfl)) ?_
          refine sr_x rfl (wtd_yes rfl rfl rfl) rfl (Rd.x (x_fieldAddr fd28_6 rfl)) ?_
          refine sr_x rfl (wtd_yes rfl rfl rfl) rfl (Rd.x (x_load ag2 rfl (cells_ext (by repeat (first | exact List.mem_cons_self | apply List.mem_cons_of_mem)) (by repeat (first | exact Ext.all _ | exact Ext.done | apply Ext.take | apply Ext.skip))))) ?_
          refine sr_cmp rfl (wtd_yes rfl rfl rfl) rfl (Rd.x (x_ge rfl rfl)) (fun h5 => ?_) (fun h5 => ?_)
          · refine sr_x rfl (wtd_none rfl) rfl (Rd.x (x_pick_t rfl rfl rfl)) ?_
            refine sr_x rfl (wtd_none rfl) rfl (Rd.x (x_move rfl)) ?_
            refine sr_x rfl (wtd_yes rfl rfl rfl) rfl (Rd.x (x_fieldAddr fd28_6 rfl)) ?_
            refine sr_x rfl (wtd_yes rfl rfl rfl) rfl (Rd.x (x_load ag2 rfl (cells_ext (by repeat (first | exact List.mem_cons_self | apply List.mem_cons_of_mem)) (by repeat (first | exact Ext.all _ | exact Ext.done | apply Ext.take | apply Ext.skip))))) ?_
            refine sr_x rfl (wtd_yes rfl rfl rfl) rfl (Rd.x (x_fieldAddr fd28_6 rfl)) ?_
            refine sr_x rfl (wtd_yes rfl rfl rfl) rfl (Rd.x (x_load ag2 rfl (cells_ext (by repeat (first | exact List.mem_cons_self | apply List.mem_cons_of_mem)) (by repeat (first | exact Ext.all _ | exact Ext.done | apply Ext.take | apply Ext.skip))))) ?_
            refine sr_x rfl (wtd_yes rfl rfl rfl) rfl (Rd.x (x_max rfl rfl)) ?_
            refine sr_x rfl (wtd_yes rfl rfl rfl) rfl (Rd.x (x_fieldAddr fd28_7 rfl)) ?_
            refine sr_x rfl (wtd_yes rfl rfl rfl) rfl (Rd.x (x_load ag2 rfl (cells_ext (by repeat (first | exact List.mem_cons_self | apply List.mem_cons_of_mem)) (by repeat (first | exact Ext.all _ | exact Ext.done | apply Ext.take | apply Ext.skip))))) ?_
            refine sr_x rfl (wtd_yes rfl rfl rfl) rfl (Rd.x (x_fieldAddr fd28_7 rfl)) ?_
            refine sr_x rfl (wtd_yes rfl rfl rfl) rfl (Rd.x (x_load ag2 rfl (cells_ext (by repeat (first | exact List.mem_cons_self | apply List.mem_cons_of_mem)) (by repeat (first | exact Ext.all _ | exact Ext.done | apply Ext.take | apply Ext.skip))))) ?_
            refine sr_x rfl (wtd_yes rfl rfl rfl) rfl (Rd.x (x_min rfl rfl)) ?_
            refine sr_cmp rfl (wtd_yes rfl rfl rfl) rfl (Rd.x (x_lt rfl rfl)) (fun h6 => ?_) (fun h6 => ?_)
            · refine sr_x rfl (wtd_none rfl) rfl (Rd.x (x_pick_t rfl rfl rfl)) ?_
              refine sr_nil ?_
              refine aw_keep (keep_cons (t := 0) rfl (keep_cons (t := 2) rfl (keep_cons (t := 3) rfl (keep_cons (t := 4) rfl (keep_cons (t := 5) rfl (keep_cons (t := 6) rfl (keep_cons (t := 7) rfl (keep_cons (t := 8) rfl (keep_cons (t := 9) rfl (keep_cons (t := 10) rfl (keep_cons (t := 11) rfl (keep_cons (t := 18) rfl (keep_cons (t := 19) rfl (keep_cons (t := 20) rfl (keep_cons (t := 21) rfl (keep_cons (t := 22) rfl (keep_cons (t := 23) rfl (keep_cons (t := 24) rfl (keep_cons (t := 25) rfl (keep_cons (t := 26) rfl (keep_cons (t := 27) rfl (keep_cons (t := 28) rfl (keep_cons (t := 29) rfl (keep_cons (t := 30) rfl (keep_cons (t := 31) rfl (keep_cons (t := 32) rfl (keep_cons (t := 33) rfl (keep_cons (t := 34) rfl (keep_cons (t := 35) rfl (keep_cons (t := 36) rfl (keep_cons (t := 37) rfl (keep_cons (t := 38) rfl (keep_cons (t := 39) rfl (keep_cons (t := 40) rfl (keep_cons (t := 41) rfl (keep_cons (t := 42) rfl (keep_cons (t := 43) rfl (keep_cons (t := 44) rfl (keep_cons (t := 45) rfl (keep_cons (t := 46) rfl (keep_cons (t := 47) rfl (keep_cons (t := 48) rfl (keep_cons (t := 49) rfl (keep_cons (t := 50) rfl (keep_cons (t := 51) rfl (keep_cons (t := 52) rfl (keep_cons (t := 53) rfl keep_nil))))))))))))))))))))))))))))))))))))))))))))))) ?_
              refine aw_true rfl ?_
              refine aw_seq_region ?_
              refine sr_x rfl (wtd_none rfl) rfl (Rd.x (x_move rfl)) ?_
              refine sr_x rfl (wtd_none rfl) rfl (Rd.x (x_move rfl)) ?_
              refine sr_x rfl (wtd_none rfl) rfl (Rd.x (x_assign rfl)) ?_
              refine sr_x rfl (wtd_none rfl) rfl (Rd.x (x_assign rfl)) ?_
              refine sr_x rfl (wtd_none rfl) rfl (Rd.x (x_assign rfl)) ?_
              refine sr_nil ?_
              refine aw_keep (keep_cons (t := 0) rfl (keep_cons (t := 2) rfl (keep_cons (t := 3) rfl (keep_cons (t := 4) rfl (keep_cons (t := 5) rfl (keep_cons (t := 6) rfl (keep_cons (t := 7) rfl (keep_cons (t := 8) rfl (keep_cons (t := 9) rfl (keep_cons (t := 10) rfl (keep_cons (t := 11) rfl (keep_cons (t := 18) rfl (keep_cons (t := 19) rfl (keep_cons (t := 20) rfl (keep_cons (t := 21) rfl (keep_cons (t := 22) rfl (keep_cons (t := 23) rfl (keep_cons (t := 24) rfl (keep_cons (t := 25) rfl (keep_cons (t := 26) rfl (keep_cons (t := 27) rfl (keep_cons (t := 28) rfl (keep_cons (t := 29) rfl (keep_cons (t := 30) rfl (keep_cons (t := 31) rfl (keep_cons (t := 32) rfl (keep_cons (t := 33) rfl (keep_cons (t := 34) rfl (keep_cons (t := 35) rfl (keep_cons (t := 36) rfl (keep_cons (t := 37) rfl (keep_cons (t := 38) rfl (keep_cons (t := 39) rfl (keep_cons (t := 40) rfl (keep_cons (t := 41) rfl (keep_cons (t := 42) rfl (keep_cons (t := 43) rfl (keep_cons (t := 44) rfl (keep_cons (t := 45) rfl (keep_cons (t := 46) rfl (keep_cons (t := 47) rfl (keep_cons (t := 48) rfl (keep_cons (t := 49) rfl (keep_cons (t := 50) rfl (keep_cons (t := 51) rfl (keep_cons (t := 52) rfl (keep_cons (t := 53) rfl (keep_cons (t := 54) rfl (keep_cons (t := 55) rfl keep_nil))))))))))))))))))))))))))))))))))))))))))))))))) ?_
              refine aw_ret ?_
              show ∃ v H2, ResV _ _ _ _ _ _ v ∧ Sub H2 _ ∧ _
              exact ⟨_, H, resV rfl (.cons rfl (.cons rfl (.cons rfl .nil))), (by repeat (first | exact Sub.refl _ | apply Sub.drop)), ⟨⟨_, _, _, rfl, by first | (intro q; cases q; done) | exact fun _ => ⟨⟨_, _, List.getElem?_eq_getElem hi2, List.getElem?_eq_getElem hi1, by omega, by refine ⟨by assumption, by omega, by omega, by omega⟩⟩, fun k' i' x y hx hy hk h => h.elim (fun h => hno k' i' x y hx hy hk h) fun ⟨e, hz⟩ => by subst e; exact hnk k' x y hx hy hz⟩, by first | (intro q; cases q; done) | exact fun _ => ⟨rfl, rfl, fun k' i' x y hx hy hk => hno k' i' x y hx hy hk (by have := (List.getElem?_eq_some_iff.1 hy).1; omega)⟩⟩, rfl⟩⟩
            · refine sr_x rfl (wtd_none rfl) rfl (Rd.x (x_pick_t rfl rfl rfl)) ?_
              refine sr_nil ?_
              refine aw_keep (keep_cons (t := 0) rfl (keep_cons (t := 2) rfl (keep_cons (t := 3) rfl (keep_cons (t := 4) rfl (keep_cons (t := 5) rfl (keep_cons (t := 6) rfl (keep_cons (t := 7) rfl (keep_cons (t := 8) rfl (keep_cons (t := 9) rfl (keep_cons (t := 10) rfl (keep_cons (t := 11) rfl (keep_cons (t := 18) rfl (keep_cons (t := 19) rfl (keep_cons (t := 20) rfl (keep_cons (t := 21) rfl (keep_cons (t := 22) rfl (keep_cons (t := 23) rfl (keep_cons (t := 24) rfl (keep_cons (t := 25) rfl (keep_cons (t := 26) rfl (keep_cons (t := 27) rfl (keep_cons (t := 28) rfl (keep_cons (t := 29) rfl (keep_cons (t := 30) rfl (keep_cons (t := 31) rfl (keep_cons (t := 32) rfl (keep_cons (t := 33) rfl (keep_cons (t := 34) rfl (keep_cons (t := 35) rfl (keep_cons (t := 36) rfl (keep_cons (t := 37) rfl (keep_cons (t := 38) rfl (keep_cons (t := 39) rfl (keep_cons (t := 40) rfl (keep_cons (t := 41) rfl (keep_cons (t := 42) rfl (keep_cons (t := 43) rfl (keep_cons (t := 44) rfl (keep_cons (t := 45) rfl (keep_cons (t := 46) rfl (keep_cons (t := 47) rfl (keep_cons (t := 48) rfl (keep_cons (t := 49) rfl (keep_cons (t := 50) rfl (keep_cons (t := 51) rfl (keep_cons (t := 52) rfl (keep_cons (t := 53) rfl keep_nil))))))))))))))))))))))))))))))))))))))))))))))) ?_
              refine aw_false rfl ?_
              refine aw_skip ?_
              show AW _ _ _ _ _ _ _
              refine aw_region ?_
              refine sr_x rfl (wtd_none rfl) rfl (Rd.x (x_add' rfl rfl (i64w (by omega) (by omega)))) ?_
              refine sr_x rfl (wtd_none rfl) rfl (Rd.x (x_move rfl)) ?_
              refine sr_nil ?_
              show ∃ s', _ ∧ _ ∧ _ ∧ _
              exact ⟨k + 1, ⟨by omega, fun k' x y hx hy h => (Nat.lt_or_eq_of_le (Nat.le_of_lt_succ h)).elim (hnk k' x y hx hy) fun e => by subst e; rw [List.getElem?_eq_getElem hi2] at hx; rw [List.getElem?_eq_getElem hi1] at hy; cases hx; cases hy; rintro ⟨q1, q2, q3, q4⟩; first | contradiction | omega⟩, by omega, (by repeat (first | exact keep_nil | refine keep_cons rfl ?_)), (by first | exact Sub.refl _ | exact Sub.keep (Sub.refl _) | exact Sub.drop (Sub.refl _))⟩
          · refine sr_x rfl (wtd_none rfl) rfl (Rd.x (x_pick_t rfl rfl rfl)) ?_
            refine sr_x rfl (wtd_none rfl) rfl (Rd.x (x_move rfl)) ?_
            refine sr_skip rfl (wtd_no rfl rfl rfl rfl) rfl ?_
            refine sr_skip rfl (wtd_no rfl rfl rfl rfl) rfl ?_
            refine sr_skip rfl (wtd_no rfl rfl rfl rfl) rfl ?_
            refine sr_skip rfl (wtd_no rfl rfl rfl rfl) rfl ?_
            refine sr_skip rfl (wtd_no rfl rfl rfl rfl) rfl ?_
            refine sr_skip rfl (wtd_no rfl rfl rfl rfl) rfl ?_
            refine sr_skip rfl (wtd_no rfl rfl rfl rfl) rfl ?_
            refine sr_skip rfl (wtd_no rfl rfl rfl rfl) rfl ?_
            refine sr_skip rfl (wtd_no rfl rfl rfl rfl) rfl ?_
            refine sr_skip rfl (wtd_no rfl rfl rfl rfl) rfl ?_
            refine sr_skip rfl (wtd_no rfl rfl rfl rfl) rfl ?_
            refine sr_x rfl (wtd_none rfl) rfl (Rd.x (x_pick_f rfl rfl rfl)) ?_
            refine sr_nil ?_
            refine aw_keep (keep_cons (t := 0) rfl (keep_cons (t := 2) rfl (keep_cons (t := 3) rfl (keep_cons (t := 4) rfl (keep_cons (t := 5) rfl (keep_cons (t := 6) rfl (keep_cons (t := 7) rfl (keep_cons (t := 8) rfl (keep_cons (t := 9) rfl (keep_cons (t := 10) rfl (keep_cons (t := 11) rfl (keep_cons (t := 18) rfl (keep_cons (t := 19) rfl (keep_cons (t := 20) rfl (keep_cons (t := 21) rfl (keep_cons (t := 22) rfl (keep_cons (t := 23) rfl (keep_cons (t := 24) rfl (keep_cons (t := 25) rfl (keep_cons (t := 26) rfl (keep_cons (t := 27) rfl (keep_cons (t := 28) rfl (keep_cons (t := 29) rfl (keep_cons (t := 30) rfl (keep_cons (t := 31) rfl (keep_cons (t := 32) rfl (keep_cons (t := 33) rfl (keep_cons (t := 34) rfl (keep_cons (t := 35) rfl (keep_cons (t := 36) rfl (keep_cons (t := 37) rfl (keep_cons (t := 38) rfl (keep_cons (t := 39) rfl (keep_cons (t := 40) rfl (keep_cons (t := 41) rfl (keep_cons (t := 42) rfl (keep_cons (t := 43) rfl (keep_cons (t := 44) rfl (keep_cons (t := 45) rfl (keep_cons (t := 46) rfl (keep_cons (t := 47) rfl (keep_cons (t := 48) rfl (keep_cons (t := 49) rfl (keep_cons (t := 50) rfl (keep_cons (t := 51) rfl (keep_cons (t := 52) rfl (keep_cons (t := 53) rfl keep_nil))))))))))))))))))))))))))))))))))))))))))))))) ?_
            refine aw_false rfl ?_
            refine aw_skip ?_
            show AW _ _ _ _ _ _ _
            refine aw_region ?_
            refine sr_x rfl (wtd_none rfl) rfl (Rd.x (x_add' rfl rfl (i64w (by omega) (by omega)))) ?_
            refine sr_x rfl (wtd_none rfl) rfl (Rd.x (x_move rfl)) ?_
            refine sr_nil ?_
            show ∃ s', _ ∧ _ ∧ _ ∧ _
            exact ⟨k + 1, ⟨by omega, fun k' x y hx hy h => (Nat.lt_or_eq_of_le (Nat.le_of_lt_succ h)).elim (hnk k' x y hx hy) fun e => by subst e; rw [List.getElem?_eq_getElem hi2] at hx; rw [List.getElem?_eq_getElem hi1] at hy; cases hx; cases hy; rintro ⟨q1, q2, q3, q4⟩; first | contradiction | omega⟩, by omega, (by repeat (first | exact keep_nil | refine keep_cons rfl ?_)), (by first | exact Sub.refl _ | exact Sub.keep (Sub.refl _) | exact Sub.drop (Sub.refl _))⟩
        · refine sr_x rfl (wtd_none rfl) rfl (Rd.x (x_pick_t rfl rfl rfl)) ?_
          refine sr_x rfl (wtd_none rfl) rfl (Rd.x (x_move rfl)) ?_
          refine sr_skip rfl (wtd_no rfl rfl rfl rfl) rfl ?_
          refine sr_skip rfl (wtd_no rfl rfl rfl rfl) rfl ?_
          refine sr_skip rfl (wtd_no rfl rfl rfl rfl) rfl ?_
          refine sr_x rfl (wtd_none rfl) rfl (Rd.x (x_pick_f rfl rfl rfl)) ?_
          refine sr_x rfl (wtd_none rfl) rfl (Rd.x (x_move rfl)) ?_
          refine sr_skip rfl (wtd_no rfl rfl rfl rfl) rfl ?_
          refine sr_skip rfl (wtd_no rfl rfl rfl rfl) rfl ?_
          refine sr_skip rfl (wtd_no rfl rfl rfl rfl) rfl ?_
          refine sr_skip rfl (wtd_no rfl rfl rfl rfl) rfl ?_
          refine sr_skip rfl (wtd_no rfl rfl rfl rfl) rfl ?_
          refine sr_skip rfl (wtd_no rfl rfl rfl rfl) rfl ?_
          refine sr_skip rfl (wtd_no rfl rfl rfl rfl) rfl ?_
          refine sr_skip rfl (wtd_no rfl rfl rfl rfl) rfl ?_
          refine sr_skip rfl (wtd_no rfl rfl rfl rfl) rfl ?_
          refine sr_skip rfl (wtd_no rfl rfl rfl rfl) rfl ?_
          refine sr_skip rfl (wtd_no rfl rfl rfl rfl) rfl ?_
          refine sr_x rfl (wtd_none rfl) rfl (Rd.x (x_pick_f rfl rfl rfl)) ?_
          refine sr_nil ?_
          refine aw_keep (keep_cons (t := 0) rfl (keep_cons (t := 2) rfl (keep_cons (t := 3) rfl (keep_cons (t := 4) rfl (keep_cons (t := 5) rfl (keep_cons (t := 6) rfl (keep_cons (t := 7) rfl (keep_cons (t := 8) rfl (keep_cons (t := 9) rfl (keep_cons (t := 10) rfl (keep_cons (t := 11) rfl (keep_cons (t := 18) rfl (keep_cons (t := 19) rfl (keep_cons (t := 20) rfl (keep_cons (t := 21) rfl (keep_cons (t := 22) rfl (keep_cons (t := 23) rfl (keep_cons (t := 24) rfl (keep_cons (t := 25) rfl (keep_cons (t := 26) rfl (keep_cons (t := 27) rfl (keep_cons (t := 28) rfl (keep_cons (t := 29) rfl (keep_cons (t := 30) rfl (keep_cons (t := 31) rfl (keep_cons (t := 32) rfl (keep_cons (t := 33) rfl (keep_cons (t := 34) rfl (keep_cons (t := 35) rfl (keep_cons (t := 36) rfl (keep_cons (t := 37) rfl (keep_cons (t := 38) rfl (keep_cons (t := 39) rfl (keep_cons (t := 40) rfl (keep_cons (t := 41) rfl (keep_cons (t := 42) rfl (keep_cons (t := 43) rfl (keep_cons (t := 44) rfl (keep_cons (t := 45) rfl (keep_cons (t := 46) rfl (keep_cons (t := 47) rfl (keep_cons (t := 48) rfl (keep_cons (t := 49) rfl (keep_cons (t := 50) rfl (keep_cons (t := 51) rfl (keep_cons (t := 52) rfl (keep_cons (t := 53) rfl keep_nil))))))))))))))))))))))))))))))))))))))))))))))) ?_
          refine aw_false rfl ?_
          refine aw_skip ?_
          show AW _ _ _ _ _ _ _
          refine aw_region ?_
          refine sr_x rfl (wtd_none rfl) rfl (Rd.x (x_add' rfl rfl (i64w (by omega) (by omega)))) ?_
          refine sr_x rfl (wtd_none rfl) rfl (Rd.x (x_move rfl)) ?_
          refine sr_nil ?_
          show ∃ s', _ ∧ _ ∧ _ ∧ _
          exact ⟨k + 1, ⟨by omega, fun k' x y hx hy h => (Nat.lt_or_eq_of_le (Nat.le_of_lt_succ h)).elim (hnk k' x y hx hy) fun e => by subst e; rw [List.getElem?_eq_getElem hi2] at hx; rw [List.getElem?_eq_getElem hi1] at hy; cases hx; cases hy; rintro ⟨q1, q2, q3, q4⟩; first | contradiction | omega⟩, by omega, (by repeat (first | exact keep_nil | refine keep_cons rfl ?_)), (by first | exact Sub.refl _ | exact Sub.keep (Sub.refl _) | exact Sub.drop (Sub.refl _))⟩
      · refine sr_x rfl (wtd_none rfl) rfl (Rd.x (x_move rfl)) ?_
        refine sr_skip rfl (wtd_no rfl rfl rfl rfl) rfl ?_
        refine sr_skip rfl (wtd_no rfl rfl rfl rfl) rfl ?_
        refine sr_skip rfl (wtd_no rfl rfl rfl rfl) rfl ?_
        refine sr_x rfl (wtd_none rfl) rfl (Rd.x (x_pick_f rfl rfl rfl)) ?_
        refine sr_x rfl (wtd_none rfl) rfl (Rd.x (x_move rfl)) ?_
        refine sr_skip rfl (wtd_no rfl rfl rfl rfl) rfl ?_
        refine sr_skip rfl (wtd_no rfl rfl rfl rfl) rfl ?_
        refine sr_skip rfl (wtd_no rfl rfl rfl rfl) rfl ?_
        refine sr_x rfl (wtd_none rfl) rfl (Rd.x (x_pick_f rfl rfl rfl)) ?_
        refine sr_x rfl (wtd_none rfl) rfl (Rd.x (x_move rfl)) ?_
        refine sr_skip rfl (wtd_no rfl rfl rfl rfl) rfl ?_
        refine sr_skip rfl (wtd_no rfl rfl rfl rfl) rfl ?_
        refine sr_skip rfl (wtd_no rfl rfl rfl rfl) rfl ?_
        refine sr_skip rfl (wtd_no rfl rfl rfl rfl) rfl ?_
        refine sr_skip rfl (wtd_no rfl rfl rfl rfl) rfl ?_
        refine sr_skip rfl (wtd_no rfl rfl rfl rfl) rfl ?_
        refine sr_skip rfl (wtd_no rfl rfl rfl rfl) rfl ?_
        refine sr_skip rfl (wtd_no rfl rfl rfl rfl) rfl ?_
        refine sr_skip rfl (wtd_no rfl rfl rfl rfl) rfl ?_
        refine sr_skip rfl (wtd_no rfl rfl rfl rfl) rfl ?_
        refine sr_skip rfl (wtd_no rfl rfl rfl rfl) rfl ?_
        refine sr_x rfl (wtd_none rfl) rfl (Rd.x (x_pick_f rfl rfl rfl)) ?_
        refine sr_nil ?_
        refine aw_keep (keep_cons (t := 0) rfl (keep_cons (t := 2) rfl (keep_cons (t := 3) rfl (keep_cons (t := 4) rfl (keep_cons (t := 5) rfl (keep_cons (t := 6) rfl (keep_cons (t := 7) rfl (keep_cons (t := 8) rfl (keep_cons (t := 9) rfl (keep_cons (t := 10) rfl (keep_cons (t := 11) rfl (keep_cons (t := 18) rfl (keep_cons (t := 19) rfl (keep_cons (t := 20) rfl (keep_cons (t := 21) rfl (keep_cons (t := 22) rfl (keep_cons (t := 23) rfl (keep_cons (t := 24) rfl (keep_cons (t := 25) rfl (keep_cons (t := 26) rfl (keep_cons (t := 27) rfl (keep_cons (t := 28) rfl (keep_cons (t := 29) rfl (keep_cons (t := 30) rfl (keep_cons (t := 31) rfl (keep_cons (t := 32) rfl (keep_cons (t := 33) rfl (keep_cons (t := 34) rfl (keep_cons (t := 35) rfl (keep_cons (t := 36) rfl (keep_cons (t := 37) rfl (keep_cons (t := 38) rfl (keep_cons (t := 39) rfl (keep_cons (t := 40) rfl (keep_cons (t := 41) rfl (keep_cons (t := 42) rfl (keep_cons (t := 43) rfl (keep_cons (t := 44) rfl (keep_cons (t := 45) rfl (keep_cons (t := 46) rfl (keep_cons (t := 47) rfl (keep_cons (t := 48) rfl (keep_cons (t := 49) rfl (keep_cons (t := 50) rfl (keep_cons (t := 51) rfl (keep_cons (t := 52) rfl (keep_cons (t := 53) rfl keep_nil))))))))))))))))))))))))))))))))))))))))))))))) ?_
        refine aw_false rfl ?_
        refine aw_skip ?_
        show AW _ _ _ _ _ _ _
        refine aw_region ?_
        refine sr_x rfl (wtd_none rfl) rfl (Rd.x (x_add' rfl rfl (i64w (by omega) (by omega)))) ?_
        refine sr_x rfl (wtd_none rfl) rfl (Rd.x (x_move rfl)) ?_
        refine sr_nil ?_
        show ∃ s', _ ∧ _ ∧ _ ∧ _
        exact ⟨k + 1, ⟨by omega, fun k' x y hx hy h => (Nat.lt_or_eq_of_le (Nat.le_of_lt_succ h)).elim (hnk k' x y hx hy) fun e => by subst e; rw [List.getElem?_eq_getElem hi2] at hx; rw [List.getElem?_eq_getElem hi1] at hy; cases hx; cases hy; rintro ⟨q1, q2, q3, q4⟩; first | contradiction | omega⟩, by omega, (by repeat (first | exact keep_nil | refine keep_cons rfl ?_)), (by first | exact Sub.refl _ | exact Sub.keep (Sub.refl _) | exact Sub.drop (Sub.refl _))⟩
    · refine sr_nil ?_
      refine aw_keep (keep_cons (t := 0) rfl (keep_cons (t := 2) rfl (keep_cons (t := 3) rfl (keep_cons (t := 4) rfl (keep_cons (t := 5) rfl (keep_cons (t := 6) rfl (keep_cons (t := 9) rfl (keep_cons (t := 10) rfl (keep_cons (t := 11) rfl (keep_cons (t := 18) rfl (keep_cons (t := 19) rfl (keep_cons (t := 20) rfl (keep_cons (t := 21) rfl keep_nil))))))))))))) ?_
      refine aw_seq ?_
      refine aw_false rfl ?_
      refine aw_exit ?_
      show AW _ _ _ _ _ _ _
      refine aw_region ?_
      refine sr_x rfl (wtd_none rfl) rfl (Rd.x (x_add' rfl rfl (i64w (by omega) (by omega)))) ?_
      refine sr_x rfl (wtd_none rfl) rfl (Rd.x (x_move rfl)) ?_
      refine sr_nil ?_
      show ∃ s', _ ∧ _ ∧ _ ∧ _
      exact ⟨i + 1, ⟨by omega, fun k' i' x y hx hy hk h => (Nat.lt_or_eq_of_le (Nat.le_of_lt_succ h)).elim (hno k' i' x y hx hy hk) fun e => by subst e; exact hnk k' x y hx hy (by omega)⟩, by omega, (by repeat (first | exact keep_nil | refine keep_cons rfl ?_)), (by repeat (first | exact Sub.refl _ | apply Sub.drop))⟩
  · refine sr_nil ?_
    refine aw_keep (keep_cons (t := 0) rfl (keep_cons (t := 2) rfl (keep_cons (t := 3) rfl (keep_cons (t := 4) rfl (keep_cons (t := 9) rfl (keep_cons (t := 10) rfl (keep_cons (t := 11) rfl (keep_cons (t := 12) rfl keep_nil)))))))) ?_
    refine aw_seq ?_
    refine aw_false rfl ?_
    refine aw_exit ?_
    show AW _ _ _ _ _ _ _
    refine aw_seq_region ?_
    refine sr_x rfl (wtd_none rfl) rfl (Rd.x (x_assign rfl)) ?_
    refine sr_x rfl (wtd_none rfl) rfl (Rd.x (x_assign rfl)) ?_
    refine sr_x rfl (wtd_none rfl) rfl (Rd.x (x_assign rfl)) ?_
    refine sr_nil ?_
    refine aw_keep (keep_cons (t := 2) rfl (keep_cons (t := 3) rfl (keep_cons (t := 4) rfl keep_nil))) ?_
    refine aw_ret ?_
    show ∃ v H2, ResV _ _ _ _ _ _ v ∧ Sub H2 _ ∧ _
    exact ⟨_, H, resV rfl (.cons rfl (.cons rfl (.cons rfl .nil))), (by repeat (first | exact Sub.refl _ | apply Sub.drop)), ⟨⟨_, _, _, rfl, by first | (intro q; cases q; done) | exact fun _ => ⟨⟨_, _, List.getElem?_eq_getElem hi2, List.getElem?_eq_getElem hi1, by omega, by refine ⟨by assumption, by omega, by omega, by omega⟩⟩, fun k' i' x y hx hy hk h => h.elim (fun h => hno k' i' x y hx hy hk h) fun ⟨e, hz⟩ => by subst e; exact hnk k' x y hx hy hz⟩, by first | (intro q; cases q; done) | exact fun _ => ⟨rfl, rfl, fun k' i' x y hx hy hk => hno k' i' x y hx hy hk (by have := (List.getElem?_eq_some_iff.1 hy).1; omega)⟩⟩, rfl⟩⟩
set_option maxRecDepth 100000 in
set_option maxHeartbeats 400000 in
theorem right_s (c : Chart) (H : SHeap) : AC Try.prog W0 33 [c.v] H (fun v H' => (∃ b : Bool, v = .bool b ∧ (b = true ↔ c.Right)) ∧ H' = H) := by
  refine ac_of Try.func33 rfl rfl rfl ?_
  refine aw_seq_region ?_
  refine sr_new rfl (wtd_none rfl) rfl (x_box rfl rfl) ?_
  intro r0_0 hr0_0 gr0_0
  refine sr_x rfl (wtd_none rfl) rfl (Rd.x (x_assign rfl)) ?_
  refine sr_nil ?_
  refine aw_keep (keep_cons (t := 1) rfl (keep_cons (t := 2) rfl keep_nil)) ?_
  refine aw_seq_region ?_
  refine sr_x rfl (wtd_none rfl) rfl (Rd.x (x_fieldAddr fd36_0 rfl)) ?_
  refine sr_x rfl (wtd_none rfl) rfl (Rd.x (x_load ag2 rfl (cells_ext (by repeat (first | exact List.mem_cons_self | apply List.mem_cons_of_mem)) (by repeat (first | exact Ext.all _ | exact Ext.done | apply Ext.take | apply Ext.skip))))) ?_
  refine sr_cmp rfl (wtd_none rfl) rfl (Rd.x (x_ge rfl rfl)) (fun h1 => ?_) (fun h1 => ?_)
  · refine sr_x rfl (wtd_none rfl) rfl (Rd.x (x_move rfl)) ?_
    refine sr_x rfl (wtd_yes rfl rfl rfl) rfl (Rd.x (x_fieldAddr fd36_0 rfl)) ?_
    refine sr_x rfl (wtd_yes rfl rfl rfl) rfl (Rd.x (x_load ag2 rfl (cells_ext (by repeat (first | exact List.mem_cons_self | apply List.mem_cons_of_mem)) (by repeat (first | exact Ext.all _ | exact Ext.done | apply Ext.take | apply Ext.skip))))) ?_
    refine sr_cmp rfl (wtd_yes rfl rfl rfl) rfl (Rd.x (x_le rfl rfl)) (fun h2 => ?_) (fun h2 => ?_)
    · refine sr_x rfl (wtd_none rfl) rfl (Rd.x (x_pick_t rfl rfl rfl)) ?_
      refine sr_x rfl (wtd_none rfl) rfl (Rd.x (x_move rfl)) ?_
      refine sr_x rfl (wtd_yes rfl rfl rfl) rfl (Rd.x (x_fieldAddr fd36_1 rfl)) ?_
      refine sr_x rfl (wtd_yes rfl rfl rfl) rfl (Rd.x (x_load ag2 rfl (cells_ext (by repeat (first | exact List.mem_cons_self | apply List.mem_cons_of_mem)) (by repeat (first | exact Ext.all _ | exact Ext.done | apply Ext.take | apply Ext.skip))))) ?_
      refine sr_cmp rfl (wtd_yes rfl rfl rfl) rfl (Rd.x (x_ge rfl rfl)) (fun h3 => ?_) (fun h3 => ?_)
      · refine sr_x rfl (wtd_none rfl) rfl (Rd.x (x_pick_t rfl rfl rfl)) ?_
        refine sr_x rfl (wtd_none rfl) rfl (Rd.x (x_move rfl)) ?_
        refine sr_x rfl (wtd_yes rfl rfl rfl) rfl (Rd.x (x_fieldAddr fd36_1 rfl)) ?_
        refine sr_x rfl (wtd_yes rfl rfl rfl) rfl (Rd.x (x_load ag2 rfl (cells_ext (by repeat (first | exact List.mem_cons_self | apply List.mem_cons_of_mem)) (by repeat (first | exact Ext.all _ | exact Ext.done | apply Ext.take | apply Ext.skip))))) ?_
        refine sr_cmp rfl (wtd_yes rfl rfl rfl) rfl (Rd.x (x_le rfl rfl)) (fun h4 => ?_) (fun h4 => ?_)
        · refine sr_x rfl (wtd_none rfl) rfl (Rd.x (x_pick_t rfl rfl rfl)) ?_
          refine sr_x rfl (wtd_none rfl) rfl (Rd.x (x_move rfl)) ?_
          refine sr_x rfl (wtd_yes rfl rfl rfl) rfl (Rd.x (x_fieldAddr fd36_2 rfl)) ?_
          refine sr_x rfl (wtd_yes rfl rfl rfl) rfl (Rd.x (x_load ag3 rfl (cells_ext (by repeat (first | exact List.mem_cons_self | apply List.mem_cons_of_mem)) (by repeat (first | exact Ext.all _ | exact Ext.done | apply Ext.take | apply Ext.skip))))) ?_
          refine sr_cmp rfl (wtd_yes rfl rfl rfl) rfl (Rd.x (x_ge rfl rfl)) (fun h5 => ?_) (fun h5 => ?_)
          · refine sr_x rfl (wtd_none rfl) rfl (Rd.x (x_pick_t rfl rfl rfl)) ?_
            refine sr_x rfl (wtd_none rfl) rfl (Rd.x (x_move rfl)) ?_
            refine sr_x rfl (wtd_yes rfl rfl rfl) rfl (Rd.x (x_fieldAddr fd36_2 rfl)) ?_
            refine sr_x rfl (wtd_yes rfl rfl rfl) rfl (Rd.x (x_load ag3 rfl (cells_ext (by repeat (first | exact List.mem_cons_self | apply List.mem_cons_of_mem)) (by repeat (first | exact Ext.all _ | exact Ext.done | apply Ext.take | apply Ext.skip))))) ?_
            refine sr_cmp rfl (wtd_yes rfl rfl rfl) rfl (Rd.x (x_le rfl rfl)) (fun h6 => ?_) (fun h6 => ?_)
            · refine sr_x rfl (wtd_none rfl) rfl (Rd.x (x_pick_t rfl rfl rfl)) ?_
              refine sr_x rfl (wtd_none rfl) rfl (Rd.x (x_assign rfl)) ?_
              refine sr_nil ?_
              refine aw_keep (keep_cons (t := 2) rfl keep_nil) ?_
              refine aw_ret ?_
              show ∃ v H2, ResV _ _ _ _ _ _ v ∧ Sub H2 _ ∧ _
              exact ⟨_, H, resV rfl (.cons rfl .nil), (by repeat (first | exact Sub.refl _ | apply Sub.drop)), ⟨⟨_, rfl, by unfold Chart.Right; simp; omega⟩, rfl⟩⟩
            · refine sr_x rfl (wtd_none rfl) rfl (Rd.x (x_pick_t rfl rfl rfl)) ?_
              refine sr_x rfl (wtd_none rfl) rfl (Rd.x (x_assign rfl)) ?_
              refine sr_nil ?_
              refine aw_keep (keep_cons (t := 2) rfl keep_nil) ?_
              refine aw_ret ?_
              show ∃ v H2, ResV _ _ _ _ _ _ v ∧ Sub H2 _ ∧ _
              exact ⟨_, H, resV rfl (.cons rfl .nil), (by repeat (first | exact Sub.refl _ | apply Sub.drop)), ⟨⟨_, rfl, by unfold Chart.Right; simp; omega⟩, rfl⟩⟩
          · refine sr_x rfl (wtd_none rfl) rfl (Rd.x (x_pick_t rfl rfl rfl)) ?_
            refine sr_x rfl (wtd_none rfl) rfl (Rd.x (x_move rfl)) ?_
            refine sr_skip rfl (wtd_no rfl rfl rfl rfl) rfl ?_
            refine sr_skip rfl (wtd_no rfl rfl rfl rfl) rfl ?_
            refine sr_skip rfl (wtd_no rfl rfl rfl rfl) rfl ?_
            refine sr_x rfl (wtd_none rfl) rfl (Rd.x (x_pick_f rfl rfl rfl)) ?_
            refine sr_x rfl (wtd_none rfl) rfl (Rd.x (x_assign rfl)) ?_
            refine sr_nil ?_
            refine aw_keep (keep_cons (t := 2) rfl keep_nil) ?_
            refine aw_ret ?_
            show ∃ v H2, ResV _ _ _ _ _ _ v ∧ Sub H2 _ ∧ _
            exact ⟨_, H, resV rfl (.cons rfl .nil), (by repeat (first | exact Sub.refl _ | apply Sub.drop)), ⟨⟨_, rfl, by unfold Chart.Right; simp; omega⟩, rfl⟩⟩
        · refine sr_x rfl (wtd_none rfl) rfl (Rd.x (x_pick_t rfl rfl rfl)) ?_
          refine sr_x rfl (wtd_none rfl) rfl (Rd.x (x_move rfl)) ?_
          refine sr_skip rfl (wtd_no rfl rfl rfl rfl) rfl ?_
          refine sr_skip rfl (wtd_no rfl rfl rfl rfl) rfl ?_
          refine sr_skip rfl (wtd_no rfl rfl rfl rfl) rfl ?_
          refine sr_x rfl (wtd_none rfl) rfl (Rd.x (x_pick_f rfl rfl rfl)) ?_
          refine sr_x rfl (wtd_none rfl) rfl (Rd.x (x_move rfl)) ?_
          refine sr_skip rfl (wtd_no rfl rfl rfl rfl) rfl ?_
          refine sr_skip rfl (wtd_no rfl rfl rfl rfl) rfl ?_
          refine sr_skip rfl (wtd_no rfl rfl rfl rfl) rfl ?_
          refine sr_x rfl (wtd_none rfl) rfl (Rd.x (x_pick_f rfl rfl rfl)) ?_
          refine sr_x rfl (wtd_none rfl) rfl (Rd.x (x_assign rfl)) ?_
          refine sr_nil ?_
          refine aw_keep (keep_cons (t := 2) rfl keep_nil) ?_
          refine aw_ret ?_
          show ∃ v H2, ResV _ _ _ _ _ _ v ∧ Sub H2 _ ∧ _
          exact ⟨_, H, resV rfl (.cons rfl .nil), (by repeat (first | exact Sub.refl _ | apply Sub.drop)), ⟨⟨_, rfl, by unfold Chart.Right; simp; omega⟩, rfl⟩⟩
      · refine sr_x rfl (wtd_none rfl) rfl (Rd.x (x_pick_t rfl rfl rfl)) ?_
        refine sr_x rfl (wtd_none rfl) rfl (Rd.x (x_move rfl)) ?_
        refine sr_skip rfl (wtd_no rfl rfl rfl rfl) rfl ?_
        refine sr_skip rfl (wtd_no rfl rfl rfl rfl) rfl ?_
        refine sr_skip rfl (wtd_no rfl rfl rfl rfl) rfl ?_
        refine sr_x rfl (wtd_none rfl) rfl (Rd.x (x_pick_f rfl rfl rfl)) ?_
        refine sr_x rfl (wtd_none rfl) rfl (Rd.x (x_move rfl)) ?_
        refine sr_skip rfl (wtd_no rfl rfl rfl rfl) rfl ?_
        refine sr_skip rfl (wtd_no rfl rfl rfl rfl) rfl ?_
        refine sr_skip rfl (wtd_no rfl rfl rfl rfl) rfl ?_
        refine sr_x rfl (wtd_none rfl) rfl (Rd.x (x_pick_f rfl rfl rfl)) ?_
        refine sr_x rfl (wtd_none rfl) rfl (Rd.x (x_move rfl)) ?_
        refine sr_skip rfl (wtd_no rfl rfl rfl rfl) rfl ?_
        refine sr_skip rfl (wtd_no rfl rfl rfl rfl) rfl ?_
        refine sr_skip rfl (wtd_no rfl rfl rfl rfl) rfl ?_
        refine sr_x rfl (wtd_none rfl) rfl (Rd.x (x_pick_f rfl rfl rfl)) ?_
        refine sr_x rfl (wtd_none rfl) rfl (Rd.x (x_assign rfl)) ?_
        refine sr_nil ?_
        refine aw_keep (keep_cons (t := 2) rfl keep_nil) ?_
        refine aw_ret ?_
        show ∃ v H2, ResV _ _ _ _ _ _ v ∧ Sub H2 _ ∧ _
        exact ⟨_, H, resV rfl (.cons rfl .nil), (by repeat (first | exact Sub.refl _ | apply Sub.drop)), ⟨⟨_, rfl, by unfold Chart.Right; simp; omega⟩, rfl⟩⟩
    · refine sr_x rfl (wtd_none rfl) rfl (Rd.x (x_pick_t rfl rfl rfl)) ?_
      refine sr_x rfl (wtd_none rfl) rfl (Rd.x (x_move rfl)) ?_
      refine sr_skip rfl (wtd_no rfl rfl rfl rfl) rfl ?_
      refine sr_skip rfl (wtd_no rfl rfl rfl rfl) rfl ?_
      refine sr_skip rfl (wtd_no rfl rfl rfl rfl) rfl ?_
      refine sr_x rfl (wtd_none rfl) rfl (Rd.x (x_pick_f rfl rfl rfl)) ?_
      refine sr_x rfl (wtd_none rfl) rfl (Rd.x (x_move rfl)) ?_
      refine sr_skip rfl (wtd_no rfl rfl rfl rfl) rfl ?_
      refine sr_skip rfl (wtd_no rfl rfl rfl rfl) rfl ?_
      refine sr_skip rfl (wtd_no rfl rfl rfl rfl) rfl ?_
      refine sr_x rfl (wtd_none rfl) rfl (Rd.x (x_pick_f rfl rfl rfl)) ?_
      refine sr_x rfl (wtd_none rfl) rfl (Rd.x (x_move rfl)) ?_
      refine sr_skip rfl (wtd_no rfl rfl rfl rfl) rfl ?_
      refine sr_skip rfl (wtd_no rfl rfl rfl rfl) rfl ?_
      refine sr_skip rfl (wtd_no rfl rfl rfl rfl) rfl ?_
      refine sr_x rfl (wtd_none rfl) rfl (Rd.x (x_pick_f rfl rfl rfl)) ?_
      refine sr_x rfl (wtd_none rfl) rfl (Rd.x (x_move rfl)) ?_
      refine sr_skip rfl (wtd_no rfl rfl rfl rfl) rfl ?_
      refine sr_skip rfl (wtd_no rfl rfl rfl rfl) rfl ?_
      refine sr_skip rfl (wtd_no rfl rfl rfl rfl) rfl ?_
      refine sr_x rfl (wtd_none rfl) rfl (Rd.x (x_pick_f rfl rfl rfl)) ?_
      refine sr_x rfl (wtd_none rfl) rfl (Rd.x (x_assign rfl)) ?_
      refine sr_nil ?_
      refine aw_keep (keep_cons (t := 2) rfl keep_nil) ?_
      refine aw_ret ?_
      show ∃ v H2, ResV _ _ _ _ _ _ v ∧ Sub H2 _ ∧ _
      exact ⟨_, H, resV rfl (.cons rfl .nil), (by repeat (first | exact Sub.refl _ | apply Sub.drop)), ⟨⟨_, rfl, by unfold Chart.Right; simp; omega⟩, rfl⟩⟩
  · refine sr_x rfl (wtd_none rfl) rfl (Rd.x (x_move rfl)) ?_
    refine sr_skip rfl (wtd_no rfl rfl rfl rfl) rfl ?_
    refine sr_skip rfl (wtd_no rfl rfl rfl rfl) rfl ?_
    refine sr_skip rfl (wtd_no rfl rfl rfl rfl) rfl ?_
    refine sr_x rfl (wtd_none rfl) rfl (Rd.x (x_pick_f rfl rfl rfl)) ?_
    refine sr_x rfl (wtd_none rfl) rfl (Rd.x (x_move rfl)) ?_
    refine sr_skip rfl (wtd_no rfl rfl rfl rfl) rfl ?_
    refine sr_skip rfl (wtd_no rfl rfl rfl rfl) rfl ?_
    refine sr_skip rfl (wtd_no rfl rfl rfl rfl) rfl ?_
    refine sr_x rfl (wtd_none rfl) rfl (Rd.x (x_pick_f rfl rfl rfl)) ?_
    refine sr_x rfl (wtd_none rfl) rfl (Rd.x (x_move rfl)) ?_
    refine sr_skip rfl (wtd_no rfl rfl rfl rfl) rfl ?_
    refine sr_skip rfl (wtd_no rfl rfl rfl rfl) rfl ?_
    refine sr_skip rfl (wtd_no rfl rfl rfl rfl) rfl ?_
    refine sr_x rfl (wtd_none rfl) rfl (Rd.x (x_pick_f rfl rfl rfl)) ?_
    refine sr_x rfl (wtd_none rfl) rfl (Rd.x (x_move rfl)) ?_
    refine sr_skip rfl (wtd_no rfl rfl rfl rfl) rfl ?_
    refine sr_skip rfl (wtd_no rfl rfl rfl rfl) rfl ?_
    refine sr_skip rfl (wtd_no rfl rfl rfl rfl) rfl ?_
    refine sr_x rfl (wtd_none rfl) rfl (Rd.x (x_pick_f rfl rfl rfl)) ?_
    refine sr_x rfl (wtd_none rfl) rfl (Rd.x (x_move rfl)) ?_
    refine sr_skip rfl (wtd_no rfl rfl rfl rfl) rfl ?_
    refine sr_skip rfl (wtd_no rfl rfl rfl rfl) rfl ?_
    refine sr_skip rfl (wtd_no rfl rfl rfl rfl) rfl ?_
    refine sr_x rfl (wtd_none rfl) rfl (Rd.x (x_pick_f rfl rfl rfl)) ?_
    refine sr_x rfl (wtd_none rfl) rfl (Rd.x (x_assign rfl)) ?_
    refine sr_nil ?_
    refine aw_keep (keep_cons (t := 2) rfl keep_nil) ?_
    refine aw_ret ?_
    show ∃ v H2, ResV _ _ _ _ _ _ v ∧ Sub H2 _ ∧ _
    exact ⟨_, H, resV rfl (.cons rfl .nil), (by repeat (first | exact Sub.refl _ | apply Sub.drop)), ⟨⟨_, rfl, by unfold Chart.Right; simp; omega⟩, rfl⟩⟩
set_option maxRecDepth 100000 in
set_option maxHeartbeats 400000 in
theorem at_s (c : Chart) (k : Int) (H : SHeap) (hr : c.Right) (hk : 0 ≤ k ∧ k ≤ 120) : AC Try.prog W0 38 [c.v, .int .i64 k] H (fun v H' => v = .int .i64 (c.from_ + k * c.column) ∧ H' = H) := by
  obtain ⟨q1, q2, q3, q4, q5, q6⟩ := hr
  have hm1 : 0 ≤ k * c.column := Int.mul_nonneg hk.1 (by omega)
  have hm2 : k * c.column ≤ 120 * 1099511627776 := Int.mul_le_mul hk.2 q4 (by omega) (by omega)
  generalize hmm : k * c.column = m at hm1 hm2 ⊢
  refine ac_of Try.func38 rfl rfl rfl ?_
  refine aw_seq_region ?_
  refine sr_new rfl (wtd_none rfl) rfl (x_box rfl rfl) ?_
  intro r0_0 hr0_0 gr0_0
  refine sr_x rfl (wtd_none rfl) rfl (Rd.x (x_assign rfl)) ?_
  refine sr_nil ?_
  refine aw_keep (keep_cons (t := 1) rfl (keep_cons (t := 2) rfl (keep_cons (t := 4) rfl keep_nil))) ?_
  refine aw_seq_region ?_
  refine sr_x rfl (wtd_none rfl) rfl (Rd.x (x_fieldAddr fd36_0 rfl)) ?_
  refine sr_x rfl (wtd_none rfl) rfl (Rd.x (x_load ag2 rfl (cells_ext (by repeat (first | exact List.mem_cons_self | apply List.mem_cons_of_mem)) (by repeat (first | exact Ext.all _ | exact Ext.done | apply Ext.take | apply Ext.skip))))) ?_
  refine sr_x rfl (wtd_none rfl) rfl (Rd.x (x_move rfl)) ?_
  refine sr_x rfl (wtd_none rfl) rfl (Rd.x (x_fieldAddr fd36_1 rfl)) ?_
  refine sr_x rfl (wtd_none rfl) rfl (Rd.x (x_load ag2 rfl (cells_ext (by repeat (first | exact List.mem_cons_self | apply List.mem_cons_of_mem)) (by repeat (first | exact Ext.all _ | exact Ext.done | apply Ext.take | apply Ext.skip))))) ?_
  refine sr_x rfl (wtd_none rfl) rfl (Rd.x (x_mul' rfl rfl (i64w (by omega) (by omega)))) ?_
  refine sr_x rfl (wtd_none rfl) rfl (Rd.x (x_add' rfl rfl (i64w (by omega) (by omega)))) ?_
  refine sr_x rfl (wtd_none rfl) rfl (Rd.x (x_assign rfl)) ?_
  refine sr_nil ?_
  refine aw_keep (keep_cons (t := 4) rfl keep_nil) ?_
  refine aw_ret ?_
  show ∃ v H2, ResV _ _ _ _ _ _ v ∧ Sub H2 _ ∧ _
  exact ⟨_, H, resV rfl (.cons rfl .nil), (by repeat (first | exact Sub.refl _ | apply Sub.drop)), ⟨congrArg (Value.int .i64) (by rw [hmm]), rfl⟩⟩
set_option maxRecDepth 100000 in
set_option maxHeartbeats 400000 in
theorem had_s (j : Job) (n t : Int) (H : SHeap) (hw : j.Wf) : AC Try.prog W0 57 [j.v, .int .i64 n, .int .i64 t] H (fun v H' => (∃ b : Bool, v = .bool b ∧ b = hadB j n t) ∧ H' = H) := by
  unfold Job.Wf at hw
  rw [u64_min, u64_max] at hw
  refine ac_of Try.func57 rfl rfl rfl ?_
  refine aw_seq_region ?_
  refine sr_new rfl (wtd_none rfl) rfl (x_box rfl rfl) ?_
  intro r0_0 hr0_0 gr0_0
  refine sr_x rfl (wtd_none rfl) rfl (Rd.x (x_assign rfl)) ?_
  refine sr_nil ?_
  refine aw_keep (keep_cons (t := 1) rfl (keep_cons (t := 2) rfl (keep_cons (t := 3) rfl (keep_cons (t := 6) rfl keep_nil)))) ?_
  refine aw_seq_region ?_
  refine sr_x rfl (wtd_none rfl) rfl (Rd.x (x_fieldAddr fd28_6 rfl)) ?_
  refine sr_x rfl (wtd_none rfl) rfl (Rd.x (x_load ag2 rfl (cells_ext (by repeat (first | exact List.mem_cons_self | apply List.mem_cons_of_mem)) (by repeat (first | exact Ext.all _ | exact Ext.done | apply Ext.take | apply Ext.skip))))) ?_
  refine sr_cmp rfl (wtd_none rfl) rfl (Rd.x (x_ge rfl rfl)) (fun h1 => ?_) (fun h1 => ?_)
  · refine sr_x rfl (wtd_none rfl) rfl (Rd.x (x_move rfl)) ?_
    refine sr_x rfl (wtd_yes rfl rfl rfl) rfl (Rd.x (x_fieldAddr fd28_6 rfl)) ?_
    refine sr_x rfl (wtd_yes rfl rfl rfl) rfl (Rd.x (x_load ag2 rfl (cells_ext (by repeat (first | exact List.mem_cons_self | apply List.mem_cons_of_mem)) (by repeat (first | exact Ext.all _ | exact Ext.done | apply Ext.take | apply Ext.skip))))) ?_
    refine sr_x rfl (wtd_yes rfl rfl rfl) rfl (Rd.x (x_move rfl)) ?_
    refine sr_cmp rfl (wtd_yes rfl rfl rfl) rfl (Rd.x (x_le rfl rfl)) (fun h2 => ?_) (fun h2 => ?_)
    · refine sr_x rfl (wtd_none rfl) rfl (Rd.x (x_pick_t rfl rfl rfl)) ?_
      refine sr_x rfl (wtd_none rfl) rfl (Rd.x (x_move rfl)) ?_
      refine sr_x rfl (wtd_yes rfl rfl rfl) rfl (Rd.x (x_move rfl)) ?_
      refine sr_x rfl (wtd_yes rfl rfl rfl) rfl (Rd.x (x_fieldAddr fd28_7 rfl)) ?_
      refine sr_x rfl (wtd_yes rfl rfl rfl) rfl (Rd.x (x_load ag2 rfl (cells_ext (by repeat (first | exact List.mem_cons_self | apply List.mem_cons_of_mem)) (by repeat (first | exact Ext.all _ | exact Ext.done | apply Ext.take | apply Ext.skip))))) ?_
      refine sr_cmp rfl (wtd_yes rfl rfl rfl) rfl (Rd.x (x_lt rfl rfl)) (fun h3 => ?_) (fun h3 => ?_)
      · refine sr_x rfl (wtd_none rfl) rfl (Rd.x (x_pick_t rfl rfl rfl)) ?_
        refine sr_x rfl (wtd_none rfl) rfl (Rd.x (x_move rfl)) ?_
        refine sr_x rfl (wtd_yes rfl rfl rfl) rfl (Rd.x (x_fieldAddr fd28_9 rfl)) ?_
        refine sr_x rfl (wtd_yes rfl rfl rfl) rfl (Rd.x (x_load ag26 rfl (cells_ext (by repeat (first | exact List.mem_cons_self | apply List.mem_cons_of_mem)) (by repeat (first | exact Ext.all _ | exact Ext.done | apply Ext.take | apply Ext.skip))))) ?_
        refine sr_x rfl (wtd_yes rfl rfl rfl) rfl (Rd.x (x_move rfl)) ?_
        refine sr_d rfl (wtd_yes rfl rfl rfl) rfl (opS_call rfl rfl rfl rfl cl15 (has_s _ _ _ (by omega))) ?_
        rintro _ _ ⟨⟨c, rfl, hc⟩, rfl⟩
        cases c
        · refine sr_x rfl (wtd_none rfl) rfl (Rd.x (x_pick_t rfl rfl rfl)) ?_
          refine sr_x rfl (wtd_none rfl) rfl (Rd.x (x_assign rfl)) ?_
          refine sr_nil ?_
          refine aw_keep (keep_cons (t := 6) rfl keep_nil) ?_
          refine aw_ret ?_
          show ∃ v H2, ResV _ _ _ _ _ _ v ∧ Sub H2 _ ∧ _
          exact ⟨_, H, resV rfl (.cons rfl .nil), (by repeat (first | exact Sub.refl _ | apply Sub.drop)), ⟨⟨_, rfl, by unfold hadB; first | (rw [← hc]; simp; done) | (rw [← hc]; simp; omega) | (simp; omega)⟩, rfl⟩⟩
        · refine sr_x rfl (wtd_none rfl) rfl (Rd.x (x_pick_t rfl rfl rfl)) ?_
          refine sr_x rfl (wtd_none rfl) rfl (Rd.x (x_assign rfl)) ?_
          refine sr_nil ?_
          refine aw_keep (keep_cons (t := 6) rfl keep_nil) ?_
          refine aw_ret ?_
          show ∃ v H2, ResV _ _ _ _ _ _ v ∧ Sub H2 _ ∧ _
          exact ⟨_, H, resV rfl (.cons rfl .nil), (by repeat (first | exact Sub.refl _ | apply Sub.drop)), ⟨⟨_, rfl, by unfold hadB; first | (rw [← hc]; simp; done) | (rw [← hc]; simp; omega) | (simp; omega)⟩, rfl⟩⟩
      · refine sr_x rfl (wtd_none rfl) rfl (Rd.x (x_pick_t rfl rfl rfl)) ?_
        refine sr_x rfl (wtd_none rfl) rfl (Rd.x (x_move rfl)) ?_
        refine sr_skip rfl (wtd_no rfl rfl rfl rfl) rfl ?_
        refine sr_skip rfl (wtd_no rfl rfl rfl rfl) rfl ?_
        refine sr_skip rfl (wtd_no rfl rfl rfl rfl) rfl ?_
        refine sr_skip rfl (wtd_no rfl rfl rfl rfl) rfl ?_
        refine sr_x rfl (wtd_none rfl) rfl (Rd.x (x_pick_f rfl rfl rfl)) ?_
        refine sr_x rfl (wtd_none rfl) rfl (Rd.x (x_assign rfl)) ?_
        refine sr_nil ?_
        refine aw_keep (keep_cons (t := 6) rfl keep_nil) ?_
        refine aw_ret ?_
        show ∃ v H2, ResV _ _ _ _ _ _ v ∧ Sub H2 _ ∧ _
        exact ⟨_, H, resV rfl (.cons rfl .nil), (by repeat (first | exact Sub.refl _ | apply Sub.drop)), ⟨⟨_, rfl, by unfold hadB; first | (rw [← hc]; simp; done) | (rw [← hc]; simp; omega) | (simp; omega)⟩, rfl⟩⟩
    · refine sr_x rfl (wtd_none rfl) rfl (Rd.x (x_pick_t rfl rfl rfl)) ?_
      refine sr_x rfl (wtd_none rfl) rfl (Rd.x (x_move rfl)) ?_
      refine sr_skip rfl (wtd_no rfl rfl rfl rfl) rfl ?_
      refine sr_skip rfl (wtd_no rfl rfl rfl rfl) rfl ?_
      refine sr_skip rfl (wtd_no rfl rfl rfl rfl) rfl ?_
      refine sr_skip rfl (wtd_no rfl rfl rfl rfl) rfl ?_
      refine sr_x rfl (wtd_none rfl) rfl (Rd.x (x_pick_f rfl rfl rfl)) ?_
      refine sr_x rfl (wtd_none rfl) rfl (Rd.x (x_move rfl)) ?_
      refine sr_skip rfl (wtd_no rfl rfl rfl rfl) rfl ?_
      refine sr_skip rfl (wtd_no rfl rfl rfl rfl) rfl ?_
      refine sr_skip rfl (wtd_no rfl rfl rfl rfl) rfl ?_
      refine sr_skip rfl (wtd_no rfl rfl rfl rfl) rfl ?_
      refine sr_x rfl (wtd_none rfl) rfl (Rd.x (x_pick_f rfl rfl rfl)) ?_
      refine sr_x rfl (wtd_none rfl) rfl (Rd.x (x_assign rfl)) ?_
      refine sr_nil ?_
      refine aw_keep (keep_cons (t := 6) rfl keep_nil) ?_
      refine aw_ret ?_
      show ∃ v H2, ResV _ _ _ _ _ _ v ∧ Sub H2 _ ∧ _
      exact ⟨_, H, resV rfl (.cons rfl .nil), (by repeat (first | exact Sub.refl _ | apply Sub.drop)), ⟨⟨_, rfl, by unfold hadB; first | (rw [← hc]; simp; done) | (rw [← hc]; simp; omega) | (simp; omega)⟩, rfl⟩⟩
  · refine sr_x rfl (wtd_none rfl) rfl (Rd.x (x_move rfl)) ?_
    refine sr_skip rfl (wtd_no rfl rfl rfl rfl) rfl ?_
    refine sr_skip rfl (wtd_no rfl rfl rfl rfl) rfl ?_
    refine sr_skip rfl (wtd_no rfl rfl rfl rfl) rfl ?_
    refine sr_skip rfl (wtd_no rfl rfl rfl rfl) rfl ?_
    refine sr_x rfl (wtd_none rfl) rfl (Rd.x (x_pick_f rfl rfl rfl)) ?_
    refine sr_x rfl (wtd_none rfl) rfl (Rd.x (x_move rfl)) ?_
    refine sr_skip rfl (wtd_no rfl rfl rfl rfl) rfl ?_
    refine sr_skip rfl (wtd_no rfl rfl rfl rfl) rfl ?_
    refine sr_skip rfl (wtd_no rfl rfl rfl rfl) rfl ?_
    refine sr_skip rfl (wtd_no rfl rfl rfl rfl) rfl ?_
    refine sr_x rfl (wtd_none rfl) rfl (Rd.x (x_pick_f rfl rfl rfl)) ?_
    refine sr_x rfl (wtd_none rfl) rfl (Rd.x (x_move rfl)) ?_
    refine sr_skip rfl (wtd_no rfl rfl rfl rfl) rfl ?_
    refine sr_skip rfl (wtd_no rfl rfl rfl rfl) rfl ?_
    refine sr_skip rfl (wtd_no rfl rfl rfl rfl) rfl ?_
    refine sr_skip rfl (wtd_no rfl rfl rfl rfl) rfl ?_
    refine sr_x rfl (wtd_none rfl) rfl (Rd.x (x_pick_f rfl rfl rfl)) ?_
    refine sr_x rfl (wtd_none rfl) rfl (Rd.x (x_assign rfl)) ?_
    refine sr_nil ?_
    refine aw_keep (keep_cons (t := 6) rfl keep_nil) ?_
    refine aw_ret ?_
    show ∃ v H2, ResV _ _ _ _ _ _ v ∧ Sub H2 _ ∧ _
    exact ⟨_, H, resV rfl (.cons rfl .nil), (by repeat (first | exact Sub.refl _ | apply Sub.drop)), ⟨⟨_, rfl, by unfold hadB; first | (rw [← hc]; simp; done) | (rw [← hc]; simp; omega) | (simp; omega)⟩, rfl⟩⟩
set_option maxRecDepth 100000 in
set_option maxHeartbeats 400000 in
theorem sign_s (id : Int) (H : SHeap) : AC Try.prog W0 58 [.int .i64 id] H (fun v H' => v = encB (signB id) ∧ H' = H) := by
  have h26 := tm26 id
  have hse := sign_eq id
  refine ac_of Try.func58 rfl rfl rfl ?_
  refine aw_seq_region ?_
  refine sr_x rfl (wtd_none rfl) rfl (Rd.x (x_assign rfl)) ?_
  refine sr_nil ?_
  refine aw_keep (keep_cons (t := 0) rfl (keep_cons (t := 2) rfl keep_nil)) ?_
  refine aw_seq_region ?_
  refine sr_x rfl (wtd_none rfl) rfl (Rd.x (x_move rfl)) ?_
  refine sr_x rfl (wtd_none rfl) rfl (Rd.x (x_rem' rfl rfl (by omega) rfl)) ?_
  refine sr_x rfl (wtd_none rfl) rfl (Rd.x (x_add' rfl rfl (i64w (by omega) (by omega)))) ?_
  refine sr_x rfl (wtd_none rfl) rfl (Rd.x (x_rem' rfl rfl (by omega) hse)) ?_
  refine sr_x rfl (wtd_none rfl) rfl (Rd.x (x_add' rfl rfl (i64w (by omega) (by omega)))) ?_
  refine sr_x rfl (wtd_none rfl) rfl (Rd.x (x_conv' Try.underlying3 Try.underlying5 rfl (u8w (by omega) (by omega)))) ?_
  refine sr_x rfl (wtd_none rfl) rfl (Rd.x (x_assign rfl)) ?_
  refine sr_nil ?_
  refine aw_keep (keep_cons (t := 2) rfl keep_nil) ?_
  refine aw_ret ?_
  show ∃ v H2, ResV _ _ _ _ _ _ v ∧ Sub H2 _ ∧ _
  exact ⟨_, H, resV rfl (.cons rfl .nil), (by repeat (first | exact Sub.refl _ | apply Sub.drop)), ⟨by show Value.int _ _ = Value.int _ _; rw [signB_val], rfl⟩⟩
set_option maxRecDepth 100000 in
set_option maxHeartbeats 400000 in
theorem row_s (c : Chart) (n : Int) (a : Option Addr) (cap : Nat) (xs : List Job) (H : SHeap) (hs : SlV W0 H 10 Job.cells a cap xs) (hwf : ∀ j ∈ xs, j.Wf) : AC Try.prog W0 34 [c.v, .int .i64 n, .slice a xs.length cap] H (fun v H' => (c.Right → v = .string ⟨(rowB c n xs c.cols.toNat).toArray⟩) ∧ (¬ c.Right → v = .string .empty) ∧ H' = H) := by
  have hle := hs.le
  have hcb := hs.capb
  refine ac_of Try.func34 rfl rfl rfl ?_
  refine aw_seq_region ?_
  refine sr_new rfl (wtd_none rfl) rfl (x_box rfl rfl) ?_
  intro r0_0 hr0_0 gr0_0
  refine sr_x rfl (wtd_none rfl) rfl (Rd.x (x_assign rfl)) ?_
  refine sr_nil ?_
  refine aw_keep (keep_cons (t := 1) rfl (keep_cons (t := 2) rfl (keep_cons (t := 3) rfl (keep_cons (t := 6) rfl keep_nil)))) ?_
  refine aw_seq ?_
  refine aw_seq_region ?_
  refine sr_x rfl (wtd_none rfl) rfl (Rd.x (x_loadN ag36 sz36 rfl (cells_ext (by repeat (first | exact List.mem_cons_self | apply List.mem_cons_of_mem)) (by repeat (first | exact Ext.all _ | exact Ext.done | apply Ext.take | apply Ext.skip))) rfl)) ?_
  refine sr_d rfl (wtd_none rfl) rfl (opS_call rfl rfl rfl rfl cl33 (right_s _ _)) ?_
  rintro _ _ ⟨⟨c0, rfl, hr⟩, rfl⟩
  cases c0
  · refine sr_x rfl (wtd_none rfl) rfl (Rd.x (x_not rfl)) ?_
    refine sr_nil ?_
    refine aw_keep (keep_cons (t := 1) rfl (keep_cons (t := 2) rfl (keep_cons (t := 3) rfl (keep_cons (t := 6) rfl (keep_cons (t := 13) rfl keep_nil))))) ?_
    refine aw_true rfl ?_
    refine aw_seq_region ?_
    refine sr_x rfl (wtd_none rfl) rfl (Rd.x (x_assign rfl)) ?_
    refine sr_nil ?_
    refine aw_keep (keep_cons (t := 1) rfl (keep_cons (t := 2) rfl (keep_cons (t := 3) rfl (keep_cons (t := 6) rfl keep_nil)))) ?_
    refine aw_ret ?_
    show ∃ v H2, ResV _ _ _ _ _ _ v ∧ Sub H2 _ ∧ _
    exact ⟨_, H, resV rfl (.cons rfl .nil), (by repeat (first | exact Sub.refl _ | apply Sub.drop)), (by first | exact ⟨fun _ => rfl, fun h => absurd hR h, rfl⟩ | exact ⟨fun h => absurd (hr.2 h) (by simp), fun _ => rfl, rfl⟩)⟩
  · refine sr_x rfl (wtd_none rfl) rfl (Rd.x (x_not rfl)) ?_
    refine sr_nil ?_
    refine aw_keep (keep_cons (t := 1) rfl (keep_cons (t := 2) rfl (keep_cons (t := 3) rfl (keep_cons (t := 6) rfl (keep_cons (t := 13) rfl keep_nil))))) ?_
    refine aw_false rfl ?_
    refine aw_skip ?_
    show AW _ _ _ _ _ _ _
    refine aw_seq_region ?_
    have hR := hr.1 rfl
    have hR2 := hR
    obtain ⟨_, _, _, _, q5, q6⟩ := hR2
    refine sr_x rfl (wtd_none rfl) rfl (Rd.x (x_fieldAddr fd36_2 rfl)) ?_
    refine sr_x rfl (wtd_none rfl) rfl (Rd.x (x_load ag3 rfl (cells_ext (by repeat (first | exact List.mem_cons_self | apply List.mem_cons_of_mem)) (by repeat (first | exact Ext.all _ | exact Ext.done | apply Ext.take | apply Ext.skip))))) ?_
    refine sr_new rfl (wtd_none rfl) rfl (x_makeSlice Try.underlying87 sz5 zr5 rfl by5 rfl rfl (by omega) (by omega) (by omega)) ?_
    intro r3_2 hr3_2 gr3_2
    refine sr_x rfl (wtd_none rfl) rfl (Rd.x (x_assign rfl)) ?_
    refine sr_nil ?_
    refine aw_keep (keep_cons (t := 1) rfl (keep_cons (t := 2) rfl (keep_cons (t := 3) rfl (keep_cons (t := 6) rfl (keep_cons (t := 7) rfl keep_nil))))) ?_
    refine aw_seq ?_
    refine aw_seq_region ?_
    refine sr_x rfl (wtd_none rfl) rfl (Rd.x (x_move rfl)) ?_
    refine sr_x rfl (wtd_none rfl) rfl (Rd.x (x_lenSlice Try.underlying87 rfl)) ?_
    refine sr_x rfl (wtd_none rfl) rfl (Rd.x (x_move rfl)) ?_
    refine sr_nil ?_
    refine aw_keep (keep_cons (t := 1) rfl (keep_cons (t := 2) rfl (keep_cons (t := 3) rfl (keep_cons (t := 6) rfl (keep_cons (t := 7) rfl (keep_cons (t := 18) rfl (keep_cons (t := 19) rfl keep_nil))))))) ?_
    refine aw_block ?_
    refine aw_loop (ι := Nat × List Value) (fun s => s.1 ≤ c.cols.toNat ∧ Done c n xs s.1 s.2) (fun s => [(2, .slice a xs.length cap), (1, .int .i64 n), (3, .pointer (some ⟨r0_0, 0, none⟩)), (7, .slice (some ⟨r3_2, 0, none⟩) c.cols.toNat c.cols.toNat), (6, .string .empty), (18, .int .i64 c.cols.toNat), (19, .int .i64 s.1)]) (fun s => (r3_2, .cells s.2.toArray 5 (0, 0)) :: (r0_0, .cells c.cells.toArray 36 (0, 0)) :: H) (fun s => c.cols.toNat - s.1) (0, List.replicate c.cols.toNat (.int .u8 0)) (⟨Nat.zero_le _, by simp [Done, rowB]⟩) (by repeat (first | exact keep_nil | refine keep_cons rfl ?_)) (by first | exact Sub.refl _ | exact Sub.drop (Sub.refl _) | exact Sub.keep (Sub.drop (Sub.refl _))) ?_
    intro s hk
    obtain ⟨k, L⟩ := s
    obtain ⟨hk0, hD⟩ := hk
    have hLl := hD.1
    simp only at hk0 hD hLl ⊢
    refine aw_seq_region ?_
    refine sr_cmp rfl (wtd_none rfl) rfl (Rd.x (x_lt rfl rfl)) (fun h1 => ?_) (fun h1 => ?_)
    · refine sr_nil ?_
      refine aw_keep (keep_cons (t := 1) rfl (keep_cons (t := 2) rfl (keep_cons (t := 3) rfl (keep_cons (t := 6) rfl (keep_cons (t := 7) rfl (keep_cons (t := 18) rfl (keep_cons (t := 19) rfl (keep_cons (t := 20) rfl keep_nil)))))))) ?_
      refine aw_seq ?_
      refine aw_true rfl ?_
      refine aw_skip ?_
      show AW _ _ _ _ _ _ _
      refine aw_seq ?_
      refine aw_block ?_
      refine aw_seq_region ?_
      refine sr_x rfl (wtd_none rfl) rfl (Rd.x (x_move rfl)) ?_
      refine sr_x rfl (wtd_none rfl) rfl (Rd.x (x_assign rfl)) ?_
      refine sr_nil ?_
      refine aw_keep (keep_cons (t := 1) rfl (keep_cons (t := 2) rfl (keep_cons (t := 3) rfl (keep_cons (t := 6) rfl (keep_cons (t := 7) rfl (keep_cons (t := 8) rfl (keep_cons (t := 18) rfl (keep_cons (t := 19) rfl (keep_cons (t := 20) rfl (keep_cons (t := 21) rfl keep_nil)))))))))) ?_
      refine aw_seq_region ?_
      refine sr_x rfl (wtd_none rfl) rfl (Rd.x (x_move rfl)) ?_
      refine sr_x rfl (wtd_none rfl) rfl (Rd.x (x_move rfl)) ?_
      refine sr_x rfl (wtd_none rfl) rfl (Rd.x (x_indexAddr Try.underlying87 sz5 rfl rfl (by omega) (by omega))) ?_
      refine sr_x0 rfl (wtd_none rfl) (x_store sz5 rfl rfl rfl rfl rfl (by repeat (first | exact Repl.here | apply Repl.there)) (spl_at (by omega))) ?_
      refine sr_nil ?_
      refine aw_keep (keep_cons (t := 1) rfl (keep_cons (t := 2) rfl (keep_cons (t := 3) rfl (keep_cons (t := 6) rfl (keep_cons (t := 7) rfl (keep_cons (t := 8) rfl (keep_cons (t := 18) rfl (keep_cons (t := 19) rfl (keep_cons (t := 20) rfl (keep_cons (t := 21) rfl (keep_cons (t := 22) rfl (keep_cons (t := 23) rfl (keep_cons (t := 24) rfl keep_nil))))))))))))) ?_
      refine aw_seq_region ?_
      refine sr_x rfl (wtd_none rfl) rfl (Rd.x (x_move rfl)) ?_
      refine sr_x rfl (wtd_none rfl) rfl (Rd.x (x_lenSlice Try.underlying22 rfl)) ?_
      refine sr_x rfl (wtd_none rfl) rfl (Rd.x (x_move rfl)) ?_
      refine sr_nil ?_
      refine aw_keep (keep_cons (t := 1) rfl (keep_cons (t := 2) rfl (keep_cons (t := 3) rfl (keep_cons (t := 6) rfl (keep_cons (t := 7) rfl (keep_cons (t := 8) rfl (keep_cons (t := 18) rfl (keep_cons (t := 19) rfl (keep_cons (t := 20) rfl (keep_cons (t := 21) rfl (keep_cons (t := 22) rfl (keep_cons (t := 23) rfl (keep_cons (t := 24) rfl (keep_cons (t := 25) rfl (keep_cons (t := 26) rfl (keep_cons (t := 27) rfl keep_nil)))))))))))))))) ?_
      refine aw_block ?_
      refine aw_loop (ι := Nat) (fun i => i ≤ xs.length ∧ ∀ i' x, i' < i → xs[i']? = some x → hadB x n (c.from_ + (k : Int) * c.column) = false) (fun i => [(2, .slice a xs.length cap), (1, .int .i64 n), (3, .pointer (some ⟨r0_0, 0, none⟩)), (7, .slice (some ⟨r3_2, 0, none⟩) c.cols.toNat c.cols.toNat), (6, .string .empty), (18, .int .i64 c.cols.toNat), (19, .int .i64 k), (8, .int .i64 k), (25, .slice a xs.length cap), (26, .int .i64 xs.length), (27, .int .i64 i)]) (fun _ => (r3_2, .cells (L.set k (.int .u8 46)).toArray 5 (0, 0)) :: (r0_0, .cells c.cells.toArray 36 (0, 0)) :: H) (fun i => xs.length - i) 0 (⟨Nat.zero_le _, fun _ _ h => by omega⟩) (by repeat (first | exact keep_nil | refine keep_cons rfl ?_)) (by first | exact Sub.refl _ | exact Sub.drop (Sub.refl _) | exact Sub.keep (Sub.drop (Sub.refl _))) ?_
      intro i hi
      obtain ⟨hi0, hno⟩ := hi
      refine aw_seq_region ?_
      refine sr_cmp rfl (wtd_none rfl) rfl (Rd.x (x_lt rfl rfl)) (fun h2 => ?_) (fun h2 => ?_)
      · refine sr_nil ?_
        refine aw_keep (keep_cons (t := 1) rfl (keep_cons (t := 2) rfl (keep_cons (t := 3) rfl (keep_cons (t := 6) rfl (keep_cons (t := 7) rfl (keep_cons (t := 8) rfl (keep_cons (t := 18) rfl (keep_cons (t := 19) rfl (keep_cons (t := 25) rfl (keep_cons (t := 26) rfl (keep_cons (t := 27) rfl (keep_cons (t := 28) rfl keep_nil)))))))))))) ?_
        refine aw_seq ?_
        refine aw_true rfl ?_
        refine aw_skip ?_
        show AW _ _ _ _ _ _ _
        refine aw_seq ?_
        refine aw_block ?_
        refine aw_seq_region ?_
        have hi1 : i < xs.length := by omega
        obtain ⟨b1, o1, ha1, hc1⟩ := hs.at_ i _ (List.getElem?_eq_getElem hi1)
        refine sr_x rfl (wtd_none rfl) rfl (Rd.x (x_indexAddrN i Try.underlying22 sz28 rfl ha1 rfl rfl (by omega))) ?_
        refine sr_x rfl (wtd_none rfl) rfl (Rd.x (x_loadN ag28 sz28 rfl (Cells.mono hc1 (by repeat (first | exact Sub.refl _ | apply Sub.drop))) rfl)) ?_
        refine sr_new rfl (wtd_none rfl) rfl (x_alloc zr28 rfl) ?_
        intro r10_2 hr10_2 gr10_2
        refine sr_x0 rfl (wtd_none rfl) (x_store sz28 rfl rfl rfl rfl rfl (by repeat (first | exact Repl.here | apply Repl.there)) (by repeat (first | exact Spl.done | exact Spl.all rfl | apply Spl.put | apply Spl.skip))) ?_
        refine sr_nil ?_
        refine aw_keep (keep_cons (t := 1) rfl (keep_cons (t := 2) rfl (keep_cons (t := 3) rfl (keep_cons (t := 6) rfl (keep_cons (t := 7) rfl (keep_cons (t := 8) rfl (keep_cons (t := 10) rfl (keep_cons (t := 18) rfl (keep_cons (t := 19) rfl (keep_cons (t := 25) rfl (keep_cons (t := 26) rfl (keep_cons (t := 27) rfl (keep_cons (t := 28) rfl (keep_cons (t := 29) rfl (keep_cons (t := 30) rfl keep_nil))))))))))))))) ?_
        refine aw_seq_dr ⟨_, 6, 47, [[], [], [], [], [2, 3], [0, 1, 2, 3, 4]], [.mem, .light, .mem, .light, .call, .call]⟩ (by kernel_rfl) rfl rfl mix ?_
        refine dr_mem0 rfl rfl (wtd_none rfl) (x_loadN ag28 sz28 rfl (cells_ext (by repeat (first | exact List.mem_cons_self | apply List.mem_cons_of_mem)) (by repeat (first | exact Ext.all _ | exact Ext.done | apply Ext.take | apply Ext.skip))) rfl) ?_
        refine dr_light rfl rfl (wtd_none rfl) (x_move rfl) ?_
        refine dr_mem0 rfl rfl (wtd_none rfl) (x_loadN ag36 sz36 rfl (cells_ext (by repeat (first | exact List.mem_cons_self | apply List.mem_cons_of_mem)) (by repeat (first | exact Ext.all _ | exact Ext.done | apply Ext.take | apply Ext.skip))) rfl) ?_
        refine dr_light rfl rfl (wtd_none rfl) (x_move rfl) ?_
        refine dr_callq0 rfl rfl (wtd_none rfl) (opS_F rfl rfl rfl rfl cl38 (at_s _ _ _ (by assumption) (by omega))) (⟨_, rfl⟩) ?_
        rintro _ rfl
        have hwj := hwf _ (List.getElem_mem hi1)
        refine dr_callq0 rfl rfl (wtd_none rfl) (opS_F rfl rfl rfl rfl cl57 ((had_s _ _ _ _ hwj))) (⟨_, _, rfl, rfl⟩) ?_
        rintro _ ⟨b0, rfl, hb0⟩
        cases b0
        · refine dr_nil0 ?_
          refine aw_keep (keep_cons (t := 1) rfl (keep_cons (t := 2) rfl (keep_cons (t := 3) rfl (keep_cons (t := 6) rfl (keep_cons (t := 7) rfl (keep_cons (t := 8) rfl (keep_cons (t := 10) rfl (keep_cons (t := 18) rfl (keep_cons (t := 19) rfl (keep_cons (t := 25) rfl (keep_cons (t := 26) rfl (keep_cons (t := 27) rfl (keep_cons (t := 28) rfl (keep_cons (t := 29) rfl (keep_cons (t := 30) rfl (keep_cons (t := 31) rfl (keep_cons (t := 32) rfl (keep_cons (t := 33) rfl (keep_cons (t := 34) rfl (keep_cons (t := 35) rfl (keep_cons (t := 36) rfl keep_nil))))))))))))))))))))) ?_
          refine aw_false rfl ?_
          refine aw_skip ?_
          show AW _ _ _ _ _ _ _
          refine aw_region ?_
          refine sr_x rfl (wtd_none rfl) rfl (Rd.x (x_add' rfl rfl (i64w (by omega) (by omega)))) ?_
          refine sr_x rfl (wtd_none rfl) rfl (Rd.x (x_move rfl)) ?_
          refine sr_nil ?_
          show ∃ s', _ ∧ _ ∧ _ ∧ _
          exact ⟨i + 1, ⟨by omega, fun i' x h hx => (Nat.lt_or_eq_of_le (Nat.le_of_lt_succ h)).elim (fun h => hno i' x h hx) fun e => by subst e; rw [List.getElem?_eq_getElem hi1] at hx; cases hx; exact hb0.symm⟩, by omega, (by repeat (first | exact keep_nil | refine keep_cons rfl ?_)), (by first | exact Sub.refl _ | exact Sub.drop (Sub.refl _) | exact Sub.keep (Sub.drop (Sub.refl _)))⟩
        · refine dr_nil0 ?_
          refine aw_keep (keep_cons (t := 1) rfl (keep_cons (t := 2) rfl (keep_cons (t := 3) rfl (keep_cons (t := 6) rfl (keep_cons (t := 7) rfl (keep_cons (t := 8) rfl (keep_cons (t := 10) rfl (keep_cons (t := 18) rfl (keep_cons (t := 19) rfl (keep_cons (t := 25) rfl (keep_cons (t := 26) rfl (keep_cons (t := 27) rfl (keep_cons (t := 28) rfl (keep_cons (t := 29) rfl (keep_cons (t := 30) rfl (keep_cons (t := 31) rfl (keep_cons (t := 32) rfl (keep_cons (t := 33) rfl (keep_cons (t := 34) rfl (keep_cons (t := 35) rfl (keep_cons (t := 36) rfl keep_nil))))))))))))))))))))) ?_
          refine aw_true rfl ?_
          refine aw_seq_region ?_
          refine sr_x rfl (wtd_none rfl) rfl (Rd.x (x_move rfl)) ?_
          refine sr_x rfl (wtd_none rfl) rfl (Rd.x (x_move rfl)) ?_
          refine sr_x rfl (wtd_none rfl) rfl (Rd.x (x_fieldAddr fd28_0 rfl)) ?_
          refine sr_x rfl (wtd_none rfl) rfl (Rd.x (x_load ag3 rfl (cells_ext (by repeat (first | exact List.mem_cons_self | apply List.mem_cons_of_mem)) (by repeat (first | exact Ext.all _ | exact Ext.done | apply Ext.take | apply Ext.skip))))) ?_
          refine sr_d rfl (wtd_none rfl) rfl (opS_call rfl rfl rfl rfl cl58 (sign_s _ _)) ?_
          rintro _ _ ⟨rfl, rfl⟩
          refine sr_x rfl (wtd_none rfl) rfl (Rd.x (x_indexAddr Try.underlying87 sz5 rfl rfl (by omega) (by omega))) ?_
          refine sr_x0 rfl (wtd_none rfl) (x_store sz5 rfl rfl rfl rfl rfl (by repeat (first | exact Repl.here | apply Repl.there)) (spl_at (by simp; omega))) ?_
          refine sr_nil ?_
          refine aw_keep (keep_cons (t := 1) rfl (keep_cons (t := 2) rfl (keep_cons (t := 3) rfl (keep_cons (t := 6) rfl (keep_cons (t := 7) rfl (keep_cons (t := 8) rfl (keep_cons (t := 10) rfl (keep_cons (t := 18) rfl (keep_cons (t := 19) rfl (keep_cons (t := 25) rfl (keep_cons (t := 26) rfl (keep_cons (t := 27) rfl (keep_cons (t := 28) rfl (keep_cons (t := 29) rfl (keep_cons (t := 30) rfl (keep_cons (t := 31) rfl (keep_cons (t := 32) rfl (keep_cons (t := 33) rfl (keep_cons (t := 34) rfl (keep_cons (t := 35) rfl (keep_cons (t := 36) rfl (keep_cons (t := 37) rfl (keep_cons (t := 38) rfl (keep_cons (t := 39) rfl (keep_cons (t := 40) rfl (keep_cons (t := 41) rfl (keep_cons (t := 42) rfl keep_nil))))))))))))))))))))))))))) ?_
          refine aw_exit ?_
          show AW _ _ _ _ _ _ _
          refine aw_region ?_
          refine sr_x rfl (wtd_none rfl) rfl (Rd.x (x_add' rfl rfl (i64w (by omega) (by omega)))) ?_
          refine sr_x rfl (wtd_none rfl) rfl (Rd.x (x_move rfl)) ?_
          refine sr_nil ?_
          show ∃ s', _ ∧ _ ∧ _ ∧ _
          first | exact ⟨(k + 1, _), ⟨by show k + 1 ≤ _; omega, done_step (v := .int .u8 46) hD (by omega) (by unfold cellB; rw [find_none' (fun i x hi hx => hno i x (by omega) hx)]; rfl)⟩, by show _ - (k + 1) < _ - k; omega, (by repeat (first | exact keep_nil | refine keep_cons rfl ?_)), (by first | exact Sub.refl _ | exact Sub.drop (Sub.refl _) | exact Sub.keep (Sub.drop (Sub.refl _)))⟩ | exact ⟨(k + 1, _), ⟨by show k + 1 ≤ _; omega, done_step2 (u := .int .u8 46) (v := encB (signB (xs[i]'hi1).id)) hD (by omega) (by unfold cellB; rw [find_first (List.getElem?_eq_getElem hi1) (by rw [← hb0]) (fun i' x hi hx => hno i' x hi hx)])⟩, by show _ - (k + 1) < _ - k; omega, (by repeat (first | exact keep_nil | refine keep_cons rfl ?_)), (by first | exact Sub.refl _ | exact Sub.drop (Sub.refl _) | exact Sub.keep (Sub.drop (Sub.refl _)))⟩
      · refine sr_nil ?_
        refine aw_keep (keep_cons (t := 1) rfl (keep_cons (t := 2) rfl (keep_cons (t := 3) rfl (keep_cons (t := 6) rfl (keep_cons (t := 7) rfl (keep_cons (t := 8) rfl (keep_cons (t := 18) rfl (keep_cons (t := 19) rfl (keep_cons (t := 25) rfl (keep_cons (t := 26) rfl (keep_cons (t := 27) rfl (keep_cons (t := 28) rfl keep_nil)))))))))))) ?_
        refine aw_seq ?_
        refine aw_false rfl ?_
        refine aw_exit ?_
        show AW _ _ _ _ _ _ _
        refine aw_region ?_
        refine sr_x rfl (wtd_none rfl) rfl (Rd.x (x_add' rfl rfl (i64w (by omega) (by omega)))) ?_
        refine sr_x rfl (wtd_none rfl) rfl (Rd.x (x_move rfl)) ?_
        refine sr_nil ?_
        show ∃ s', _ ∧ _ ∧ _ ∧ _
        first | exact ⟨(k + 1, _), ⟨by show k + 1 ≤ _; omega, done_step (v := .int .u8 46) hD (by omega) (by unfold cellB; rw [find_none' (fun i x hi hx => hno i x (by omega) hx)]; rfl)⟩, by show _ - (k + 1) < _ - k; omega, (by repeat (first | exact keep_nil | refine keep_cons rfl ?_)), (by first | exact Sub.refl _ | exact Sub.drop (Sub.refl _) | exact Sub.keep (Sub.drop (Sub.refl _)))⟩ | exact ⟨(k + 1, _), ⟨by show k + 1 ≤ _; omega, done_step2 (u := .int .u8 46) (v := encB (signB (xs[i]'hi1).id)) hD (by omega) (by unfold cellB; rw [find_first (List.getElem?_eq_getElem hi1) (by rw [← hb0]) (fun i' x hi hx => hno i' x hi hx)])⟩, by show _ - (k + 1) < _ - k; omega, (by repeat (first | exact keep_nil | refine keep_cons rfl ?_)), (by first | exact Sub.refl _ | exact Sub.drop (Sub.refl _) | exact Sub.keep (Sub.drop (Sub.refl _)))⟩
    · refine sr_nil ?_
      refine aw_keep (keep_cons (t := 1) rfl (keep_cons (t := 2) rfl (keep_cons (t := 3) rfl (keep_cons (t := 6) rfl (keep_cons (t := 7) rfl (keep_cons (t := 18) rfl (keep_cons (t := 19) rfl (keep_cons (t := 20) rfl keep_nil)))))))) ?_
      refine aw_seq ?_
      refine aw_false rfl ?_
      refine aw_exit ?_
      show AW _ _ _ _ _ _ _
      refine aw_seq_region ?_
      refine sr_x rfl (wtd_none rfl) rfl (Rd.x (x_move rfl)) ?_
      refine sr_x rfl (wtd_none rfl) rfl (Rd.x (x_b2s Try.underlying87 Try.underlying9 Try.underlying5 rfl (cells_row hD (by omega) (by omega) (by repeat (first | exact List.mem_cons_self | apply List.mem_cons_of_mem))) (by simp [rowB]))) ?_
      refine sr_x rfl (wtd_none rfl) rfl (Rd.x (x_assign rfl)) ?_
      refine sr_nil ?_
      refine aw_keep (keep_cons (t := 6) rfl keep_nil) ?_
      refine aw_ret ?_
      show ∃ v H2, ResV _ _ _ _ _ _ v ∧ Sub H2 _ ∧ _
      exact ⟨_, H, resV rfl (.cons rfl .nil), (by repeat (first | exact Sub.refl _ | apply Sub.drop)), (by first | exact ⟨fun _ => rfl, fun h => absurd hR h, rfl⟩ | exact ⟨fun h => absurd (hr.2 h) (by simp), fun _ => rfl, rfl⟩)⟩
end
end Go.Proofs.Ytlhmoojffopheaa
