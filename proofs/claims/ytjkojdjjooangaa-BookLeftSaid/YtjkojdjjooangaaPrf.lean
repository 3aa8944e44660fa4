/- Profiles: what the functions that only look at one come to. -/
import Derived.Test.YtjkojdjjooangaaProg
import Derived.Test.YtjkojdjjooangaaSymData
import Derived.Test.YtjkojdjjooangaaProfRef
namespace Go.Proofs.Ytjkojdjjooangaa
open Go.Proofs.Ytjkojdjjooangaa.Sym
open Go.RowKit (Below)
set_option linter.unusedVariables false
set_option linter.unusedSimpArgs false
theorem all_drop {L : List Value} {k : Nat} (h : L.all oneCell = true) : (L.drop k).all oneCell = true := List.all_eq_true.2 fun v hv => List.all_eq_true.1 h v (List.mem_of_mem_drop hv)
theorem ins_len {L N : List Value} {i n s : Nat} (hL : L.length = n * s) (hN : N.length = s) (hi : i ≤ n) : (L.take (i * s) ++ N ++ L.drop (i * s)).length = (n + 1) * s := by
  have h1 : i * s ≤ n * s := Nat.mul_le_mul_right _ hi
  rw [List.length_append, List.length_append, List.length_take, List.length_drop, hL, hN, Nat.add_mul, Nat.one_mul]; omega
theorem wf_ne {W0 : World} {b r : Nat} {o p : Obj} {G : SHeap} (h : Wf W0 ((b, o) :: (r, p) :: G)) : b ≠ r := by
  have := h.1
  rw [keys_cons, keys_cons, List.nodup_cons] at this
  intro e; subst e; exact this.1 List.mem_cons_self
theorem cells_lt {W0 : World} {H : SHeap} {b : Nat} {L post : List Value} {e : TypeId} {fz : Nat × Nat} (hm : (b, Obj.cells (L ++ post).toArray e fz) ∈ H) (k : Nat) : Cells W0 H b 0 (L.take k) :=
  ⟨_, e, fz, fun hw => hw.obj hm, fun j v hv => by
    rw [List.getElem?_take] at hv
    split at hv
    · rw [List.getElem?_toArray, Nat.zero_add, List.getElem?_append_left (get_lt hv)]; exact hv
    · cases hv⟩
theorem cells_ld {W0 : World} {H : SHeap} {b : Nat} {L post : List Value} {e : TypeId} {fz : Nat × Nat} (hm : (b, Obj.cells (L ++ post).toArray e fz) ∈ H) (k : Nat) : Cells W0 H b (0 + k) (L.drop k) :=
  ⟨_, e, fz, fun hw => hw.obj hm, fun j v hv => by
    rw [List.getElem?_drop] at hv
    rw [List.getElem?_toArray, Nat.zero_add, List.getElem?_append_left (get_lt hv)]; exact hv⟩
theorem shr1 (i j : Nat) : Value.int .u64 (((i : Int) + j).fdiv (2 ^ (min (1 : Int).toNat (IntKind.bits .u64)))) = .int .u64 (((i + j) / 2 : Nat) : Int) := by
  congr 1
  rw [show (2 : Int) ^ (min (1 : Int).toNat (IntKind.bits .u64)) = 2 from rfl, Int.fdiv_eq_ediv_of_nonneg _ (by omega)]; omega
theorem bs_lo {α : Type} {xs : List α} {c : α → Int} {m : Nat} {x : α} (hx : xs[m]? = some x) (hmono : ∀ (i j : Nat) (x y : α), i ≤ j → xs[i]? = some x → xs[j]? = some y → 0 ≤ c x → 0 ≤ c y) (h : c x < 0) : ∀ k y, k < m + 1 → xs[k]? = some y → c y < 0 := by
  intro k y hk hy
  rcases Int.lt_or_le (c y) 0 with h1 | h1
  · exact h1
  · have := hmono k m y x (by omega) hy hx h1
    omega
theorem bs_hi {α : Type} {xs : List α} {c : α → Int} {m : Nat} {x : α} (hx : xs[m]? = some x) (hmono : ∀ (i j : Nat) (x y : α), i ≤ j → xs[i]? = some x → xs[j]? = some y → 0 ≤ c x → 0 ≤ c y) (h : 0 ≤ c x) : ∀ k y, m ≤ k → xs[k]? = some y → 0 ≤ c y :=
  fun k y hk hy => hmono m k x y hk hx hy h
@[reducible] def prB (p : Nat) (sl : Value) (v : Int) : Nat × Obj := (p, .cells [sl, .int .i64 v].toArray 83 (0, 0))
theorem all_oneS (xs : List PStep) : (xs.flatMap PStep.cells).all oneCell = true := all_flat (fun _ => rfl) xs
def stC (t : Int) (s : PStep) : Int := if s.at_ < t then -1 else if t < s.at_ then 1 else 0
theorem stC_lt {t : Int} {s : PStep} : stC t s < 0 ↔ s.at_ < t := by unfold stC; (repeat split) <;> omega
theorem stC_ge {t : Int} {s : PStep} : 0 ≤ stC t s ↔ t ≤ s.at_ := by unfold stC; (repeat split) <;> omega
theorem stC_z {t : Int} {s : PStep} : stC t s = 0 ↔ s.at_ = t := by unfold stC; (repeat split) <;> omega
theorem stC_mono {S : List PStep} {t : Int} (hr : Ris S) : ∀ (i j : Nat) (x y : PStep), i ≤ j → S[i]? = some x → S[j]? = some y → 0 ≤ stC t x → 0 ≤ stC t y := fun i j x y h hx hy => by
  rw [stC_ge, stC_ge]; have := hr.le hx hy h; omega
theorem idx_found {S : List PStep} {t : Int} {i : Nat} (hr : Ris S) (hi : i ≤ S.length) (h1 : ∀ k x, k < i → S[k]? = some x → stC t x < 0) (h : ∃ x, S[i]? = some x ∧ stC t x = 0) : IdxOk S t i := by
  obtain ⟨x, hx, hz⟩ := h
  rw [stC_z] at hz
  exact ⟨⟨x, hx, .inr (by omega)⟩, fun s' hs' => by have := hr.lt hx hs' (by omega); omega⟩
theorem idx_ahead {S : List PStep} {t : Int} {i : Nat} (hr : Ris S) (h0 : 0 < S.length) (hi : i ≤ S.length) (h1 : ∀ k x, k < i → S[k]? = some x → stC t x < 0) (h2 : ∀ k x, i ≤ k → S[k]? = some x → 0 ≤ stC t x) (h3 : ∀ x, S[i]? = some x → stC t x ≠ 0) : IdxOk S t (i - 1) := by
  obtain ⟨x, hx⟩ := get_ex (show i - 1 < S.length by omega)
  refine ⟨⟨x, hx, ?_⟩, fun s' hs' => ?_⟩
  · by_cases e : i = 0
    · exact .inl (by omega)
    · exact .inr (by have := stC_lt.1 (h1 (i - 1) x (by omega) hx); omega)
  · by_cases e : i = 0
    · subst e
      have q1 := stC_ge.1 (h2 0 x (Nat.le_refl _) hx)
      have q2 := hr.lt hx hs' (by omega)
      omega
    · rw [show i - 1 + 1 = i by omega] at hs'
      have q1 := stC_ge.1 (h2 i s' (Nat.le_refl _) hs')
      have q2 := mt stC_z.2 (h3 s' hs')
      omega
theorem sub_mid {E H : SHeap} {b : Nat × Obj} : Sub (b :: (E ++ H)) ((E ++ [b]) ++ H) := Sub.of_perm (by rw [List.append_assoc]; exact List.perm_middle.symm)
structure ScG where
  j : Nat
  n : Int
structure EaG where
  i : Nat
  t : Int
inductive EarC (f : Int → Int) (now from_ long w : Int) : Int → Int → Prop
  | arg : (long < 1 ∨ 1048576 < long ∨ w < 1 ∨ 64 < w) → EarC f now from_ long w 0 1
  | some {t : Int} : ¬ (long < 1 ∨ 1048576 < long ∨ w < 1 ∨ 64 < w) → FirstOk f (max from_ now) long w (.some t) → EarC f now from_ long w t 0
  | none : ¬ (long < 1 ∨ 1048576 < long ∨ w < 1 ∨ 64 < w) → FirstOk f (max from_ now) long w .none → EarC f now from_ long w 0 16
theorem EarC.uniq {f : Int → Int} {now from_ long w t e t' e' : Int} (h : EarC f now from_ long w t e) (k : EarC f now from_ long w t' e') : t = t' ∧ e = e' := by
  cases h with
  | arg h => cases k with
    | arg => exact ⟨rfl, rfl⟩
    | some k => exact absurd h k
    | none k => exact absurd h k
  | some h h2 => cases k with
    | arg k => exact absurd k h
    | some k k2 => have := h2.uniq k2; cases this; exact ⟨rfl, rfl⟩
    | none k k2 => have := h2.uniq k2; cases this
  | none h h2 => cases k with
    | arg k => exact absurd k h
    | some k k2 => have := h2.uniq k2; cases this
    | none => exact ⟨rfl, rfl⟩
theorem ag2 : aggOf Try.prog 2 = some false := by kernel_rfl
theorem ag3 : aggOf Try.prog 3 = some false := by kernel_rfl
theorem ag43 : aggOf Try.prog 43 = some false := by kernel_rfl
theorem ag76 : aggOf Try.prog 76 = some true := by kernel_rfl
theorem by76 : bytesOf Try.prog 76 = some 16 := by kernel_rfl
theorem cl123 : Callable Try.prog 123 := ⟨Try.f123, Try.func123, by kernel_rfl, by kernel_rfl⟩
theorem cl124 : Callable Try.prog 124 := ⟨Try.f124, Try.func124, by kernel_rfl, by kernel_rfl⟩
theorem cl28 : Callable Try.prog 28 := ⟨Try.f28, Try.func28, by kernel_rfl, by kernel_rfl⟩
theorem cl31 : Callable Try.prog 31 := ⟨Try.f31, Try.func31, by kernel_rfl, by kernel_rfl⟩
theorem cl90 : Callable Try.prog 90 := ⟨Try.f90, Try.func90, by kernel_rfl, by kernel_rfl⟩
theorem cl91 : Callable Try.prog 91 := ⟨Try.f91, Try.func91, by kernel_rfl, by kernel_rfl⟩
theorem cl94 : Callable Try.prog 94 := ⟨Try.f94, Try.func94, by kernel_rfl, by kernel_rfl⟩
theorem fd76_0 : fldOf Try.prog 76 0 = some (0, 2, 1) := by kernel_rfl
theorem fd76_1 : fldOf Try.prog 76 1 = some (1, 3, 1) := by kernel_rfl
theorem fd83_0 : fldOf Try.prog 83 0 = some (0, 43, 1) := by kernel_rfl
theorem fd83_1 : fldOf Try.prog 83 1 = some (1, 3, 1) := by kernel_rfl
theorem fl76 : flds Try.prog 76 = some [(0, 1), (1, 1)] := by kernel_rfl
theorem fl83 : flds Try.prog 83 = some [(0, 1), (1, 1)] := by kernel_rfl
theorem mix : Try.prog.follows .mixedOrders = true := by kernel_rfl
theorem sz76 : szOf Try.prog 76 = some 2 := by kernel_rfl
theorem zr76 : zeroOf Try.prog 76 = some (.agg #[.int .i64 0, .int .i64 0]) := by kernel_rfl
theorem zr83 : zeroOf Try.prog 83 = some (.agg #[.slice none 0 0, .int .i64 0]) := by kernel_rfl
section
variable {W0 : World}
set_option maxRecDepth 100000 in
set_option maxHeartbeats 400000 in
theorem pnone_s (p : Nat) (a : Option Addr) (cap : Nat) (S : List PStep) (ver : Int) (H : SHeap) (hc : Cells W0 H p 0 [.slice a S.length cap, .int .i64 ver]) (hs : SlV W0 H 2 PStep.cells a cap S) (h0 : 0 < S.length) : AC Try.prog W0 90 [.pointer (some ⟨p, 0, none⟩)] H (fun v H' => v = .bool false ∧ H' = H) := by
  refine ac_of Try.func90 rfl rfl rfl ?_
  refine aw_seq_region ?_
  refine sr_as ?_
  refine sr_nil ?_
  refine aw_kp [0, 2] ?_
  refine aw_seq_region ?_
  refine sr_mv ?_
  refine sr_rd (x_eqnil Try.underlying23 rfl rfl) ?_
  refine sr_mv ?_
  refine sr_ry (x_move rfl) ?_
  refine sr_ry (x_nilCheck rfl) ?_
  refine sr_ry (x_fieldAddr fd83_0 rfl) ?_
  refine sr_ry (x_load ag43 rfl (cells_get (Cells.mono hc Sub.autoR) 0 rfl)) ?_
  refine sr_ry (x_lenSlice Try.underlying43 rfl) ?_
  refine sr_cy (x_eq rfl rfl) (fun h1 => absurd h1 (by first | omega | decide)) (fun h1 => ?_)
  refine sr_rd (x_pick_f rfl rfl rfl) ?_
  refine sr_as ?_
  refine sr_nil ?_
  refine aw_kp [2] ?_
  refine aw_ret ?_
  show ∃ v H2, ResV _ _ _ _ _ _ v ∧ Sub H2 _ ∧ _
  exact ⟨_, H, resV rfl (.cons rfl .nil), (by repeat (first | exact Sub.refl _ | apply Sub.drop)), ⟨rfl, rfl⟩⟩
set_option maxRecDepth 100000 in
set_option maxHeartbeats 400000 in
theorem pnoneN_s (H : SHeap) : AC Try.prog W0 90 [.pointer none] H (fun v H' => v = .bool true ∧ H' = H) := by
  refine ac_of Try.func90 rfl rfl rfl ?_
  refine aw_seq_region ?_
  refine sr_as ?_
  refine sr_nil ?_
  refine aw_kp [0, 2] ?_
  refine aw_seq_region ?_
  refine sr_mv ?_
  refine sr_rd (x_eqnil Try.underlying23 rfl rfl) ?_
  refine sr_mv ?_
  refine sr_sk ?_
  refine sr_sk ?_
  refine sr_sk ?_
  refine sr_sk ?_
  refine sr_sk ?_
  refine sr_sk ?_
  refine sr_rd (x_pick_t rfl rfl rfl) ?_
  refine sr_as ?_
  refine sr_nil ?_
  refine aw_kp [2] ?_
  refine aw_ret ?_
  show ∃ v H2, ResV _ _ _ _ _ _ v ∧ Sub H2 _ ∧ _
  exact ⟨_, H, resV rfl (.cons rfl .nil), (by repeat (first | exact Sub.refl _ | apply Sub.drop)), ⟨rfl, rfl⟩⟩
set_option maxRecDepth 100000 in
set_option maxHeartbeats 400000 in
theorem pnoneZ_s (z : Nat) (H : SHeap) (hc : Cells W0 H z 0 [.slice none 0 0, .int .i64 0]) : AC Try.prog W0 90 [.pointer (some ⟨z, 0, none⟩)] H (fun v H' => v = .bool true ∧ H' = H) := by
  refine ac_of Try.func90 rfl rfl rfl ?_
  refine aw_seq_region ?_
  refine sr_as ?_
  refine sr_nil ?_
  refine aw_kp [0, 2] ?_
  refine aw_seq_region ?_
  refine sr_mv ?_
  refine sr_rd (x_eqnil Try.underlying23 rfl rfl) ?_
  refine sr_mv ?_
  refine sr_ry (x_move rfl) ?_
  refine sr_ry (x_nilCheck rfl) ?_
  refine sr_ry (x_fieldAddr fd83_0 rfl) ?_
  refine sr_ry (x_load ag43 rfl (cells_get (Cells.mono hc Sub.autoR) 0 rfl)) ?_
  refine sr_ry (x_lenSlice Try.underlying43 rfl) ?_
  refine sr_cy (x_eq rfl rfl) (fun h1 => ?_) (fun h1 => absurd (by first | omega | decide) h1)
  refine sr_rd (x_pick_f rfl rfl rfl) ?_
  refine sr_as ?_
  refine sr_nil ?_
  refine aw_kp [2] ?_
  refine aw_ret ?_
  show ∃ v H2, ResV _ _ _ _ _ _ v ∧ Sub H2 _ ∧ _
  exact ⟨_, H, resV rfl (.cons rfl .nil), (by repeat (first | exact Sub.refl _ | apply Sub.drop)), ⟨rfl, rfl⟩⟩
set_option maxRecDepth 100000 in
set_option maxHeartbeats 400000 in
theorem pnew_s (n : Int) (H : SHeap) (h : 0 ≤ n ∧ n ≤ 64) : AC Try.prog W0 26 [.int .i64 n] H (fun v H' => ∃ p r, v = .tuple #[.pointer (some ⟨p, 0, none⟩), .int .i64 0] ∧ OffVec 2 76 (.slice (some ⟨r, 0, none⟩) 1 1) 1 ([(⟨0, n⟩ : PStep)].flatMap PStep.cells) [(r, .cells (PStep.cells ⟨0, n⟩).toArray 76 (0, 0))] ∧ H' = prB p (.slice (some ⟨r, 0, none⟩) 1 1) 0 :: ([(r, .cells (PStep.cells ⟨0, n⟩).toArray 76 (0, 0))] ++ H)) := by
  refine ac_of Try.func26 rfl rfl rfl ?_
  refine aw_seq_region ?_
  refine sr_as ?_
  refine sr_as ?_
  refine sr_nil ?_
  refine aw_kp [0, 2, 3] ?_
  refine aw_seq ?_
  refine aw_seq_region ?_
  refine sr_mv ?_
  refine sr_c (x_lt rfl rfl) (fun h1 => absurd h1 (by first | omega | decide)) (fun h1 => ?_)
  refine sr_mv ?_
  refine sr_ry (x_move rfl) ?_
  refine sr_cy (x_gt rfl rfl) (fun h2 => absurd h2 (by first | omega | decide)) (fun h2 => ?_)
  refine sr_rd (x_pick_f rfl rfl rfl) ?_
  refine sr_nil ?_
  refine aw_kp [0, 2, 3, 9] ?_
  refine aw_false rfl ?_
  refine aw_skip ?_
  show AW _ _ _ _ _ _ _
  refine aw_seq_region ?_
  refine sr_mv ?_
  refine sr_rd (x_build zr76 rfl fl76 Parts.auto Fill.auto) ?_
  refine sr_new rfl (wtd_none rfl) rfl (x_buildSlice Try.underlying43 sz76 zr76 rfl rfl rfl rfl Parts.auto Fill.auto) ?_
  intro r3_2 hr3_2 gr3_2
  refine sr_rd (x_build zr83 rfl fl83 Parts.auto Fill.auto) ?_
  refine sr_new rfl (wtd_none rfl) rfl (x_box rfl rfl) ?_
  intro r3_4 hr3_4 gr3_4
  refine sr_as ?_
  refine sr_as ?_
  refine sr_nil ?_
  refine aw_kp [2, 3] ?_
  refine aw_ret ?_
  show ∃ v H2, ResV _ _ _ _ _ _ v ∧ Sub H2 _ ∧ _
  exact ⟨_, (prB r3_4 (.slice (some ⟨r3_2, 0, none⟩) 1 1) 0 :: ([(r3_2, .cells (PStep.cells ⟨0, n⟩).toArray 76 (0, 0))] ++ H)), resV rfl (.cons rfl (.cons rfl .nil)), Sub.autoP, ⟨r3_4, r3_2, rfl, .mk (pre := []) (post := []) rfl rfl (by omega) (by omega) (by decide), rfl⟩⟩
set_option maxRecDepth 100000 in
set_option maxHeartbeats 400000 in
theorem pnewBad_s (n : Int) (H : SHeap) (h : ¬ (0 ≤ n ∧ n ≤ 64)) : AC Try.prog W0 26 [.int .i64 n] H (fun v H' => v = .tuple #[.pointer none, .int .i64 1] ∧ H' = H) := by
  refine ac_of Try.func26 rfl rfl rfl ?_
  refine aw_seq_region ?_
  refine sr_as ?_
  refine sr_as ?_
  refine sr_nil ?_
  refine aw_kp [0, 2, 3] ?_
  refine aw_seq ?_
  refine aw_seq_region ?_
  refine sr_mv ?_
  refine sr_c (x_lt rfl rfl) (fun h1 => ?_) (fun h1 => ?_)
  · refine sr_mv ?_
    refine sr_sk ?_
    refine sr_sk ?_
    refine sr_rd (x_pick_t rfl rfl rfl) ?_
    refine sr_nil ?_
    refine aw_kp [0, 2, 3, 9] ?_
    refine aw_true rfl ?_
    refine aw_seq_region ?_
    refine sr_as ?_
    refine sr_as ?_
    refine sr_nil ?_
    refine aw_kp [0, 2, 3] ?_
    refine aw_ret ?_
    show ∃ v H2, ResV _ _ _ _ _ _ v ∧ Sub H2 _ ∧ _
    exact ⟨_, H, resV rfl (.cons rfl (.cons rfl .nil)), (by repeat (first | exact Sub.refl _ | apply Sub.drop)), (by first | exact ⟨rfl, rfl⟩ | omega)⟩
  · refine sr_mv ?_
    refine sr_ry (x_move rfl) ?_
    refine sr_cy (x_gt rfl rfl) (fun h2 => ?_) (fun h2 => ?_)
    · refine sr_rd (x_pick_f rfl rfl rfl) ?_
      refine sr_nil ?_
      refine aw_kp [0, 2, 3, 9] ?_
      refine aw_true rfl ?_
      refine aw_seq_region ?_
      refine sr_as ?_
      refine sr_as ?_
      refine sr_nil ?_
      refine aw_kp [0, 2, 3] ?_
      refine aw_ret ?_
      show ∃ v H2, ResV _ _ _ _ _ _ v ∧ Sub H2 _ ∧ _
      exact ⟨_, H, resV rfl (.cons rfl (.cons rfl .nil)), (by repeat (first | exact Sub.refl _ | apply Sub.drop)), (by first | exact ⟨rfl, rfl⟩ | omega)⟩
    · refine sr_rd (x_pick_f rfl rfl rfl) ?_
      refine sr_nil ?_
      refine aw_kp [0, 2, 3, 9] ?_
      refine aw_false rfl ?_
      refine aw_skip ?_
      show AW _ _ _ _ _ _ _
      refine aw_seq_region ?_
      refine sr_mv ?_
      refine sr_rd (x_build zr76 rfl fl76 Parts.auto Fill.auto) ?_
      refine sr_new rfl (wtd_none rfl) rfl (x_buildSlice Try.underlying43 sz76 zr76 rfl rfl rfl rfl Parts.auto Fill.auto) ?_
      intro r3_2 hr3_2 gr3_2
      refine sr_rd (x_build zr83 rfl fl83 Parts.auto Fill.auto) ?_
      refine sr_new rfl (wtd_none rfl) rfl (x_box rfl rfl) ?_
      intro r3_4 hr3_4 gr3_4
      refine sr_as ?_
      refine sr_as ?_
      refine sr_nil ?_
      refine aw_kp [2, 3] ?_
      refine aw_ret ?_
      show ∃ v H2, ResV _ _ _ _ _ _ v ∧ Sub H2 _ ∧ _
      exact ⟨_, H, resV rfl (.cons rfl (.cons rfl .nil)), (by repeat (first | exact Sub.refl _ | apply Sub.drop)), (by first | exact ⟨rfl, rfl⟩ | omega)⟩
set_option maxRecDepth 100000 in
set_option maxHeartbeats 400000 in
theorem pnow_s (p : Nat) (a : Option Addr) (cap : Nat) (S : List PStep) (ver : Int) (H : SHeap) (hc : Cells W0 H p 0 [.slice a S.length cap, .int .i64 ver]) (hs : SlV W0 H 2 PStep.cells a cap S) (s0 : PStep) (hs0 : S[0]? = some s0) : AC Try.prog W0 28 [.pointer (some ⟨p, 0, none⟩)] H (fun v H' => v = .int .i64 s0.at_ ∧ H' = H) := by
  have h0 := get_lt hs0
  refine ac_of Try.func28 rfl rfl rfl ?_
  refine aw_seq_region ?_
  refine sr_as ?_
  refine sr_nil ?_
  refine aw_kp [0, 2] ?_
  refine aw_seq ?_
  refine aw_seq_region ?_
  refine sr_mv ?_
  refine sr_d rfl (wtd_none rfl) rfl (opS_call rfl rfl rfl rfl cl90 (pnone_s p a cap S ver _ (Cells.mono hc Sub.autoR) (hs.mono Sub.autoR) h0)) ?_
  rintro _ H ⟨rfl, rfl⟩
  refine sr_nil ?_
  refine aw_kp [0, 2, 4] ?_
  refine aw_false rfl ?_
  refine aw_skip ?_
  show AW _ _ _ _ _ _ _
  refine aw_seq_region ?_
  obtain ⟨bx, ox, hax, hcx⟩ := hs.at_ 0 _ hs0
  refine sr_mv ?_
  refine sr_rd (x_nilCheck rfl) ?_
  refine sr_rd (x_fieldAddr fd83_0 rfl) ?_
  refine sr_rd (x_load ag43 rfl (cells_get (Cells.mono hc Sub.autoR) 0 rfl)) ?_
  refine sr_rd (x_indexAddrN (0) Try.underlying43 sz76 rfl hax rfl (by omega) (by omega)) ?_
  refine sr_rd (x_fieldAddr fd76_0 rfl) ?_
  refine sr_rd (x_load ag2 rfl (cells_get (Cells.mono hcx Sub.autoR) 0 rfl)) ?_
  refine sr_as ?_
  refine sr_nil ?_
  refine aw_kp [2] ?_
  refine aw_ret ?_
  show ∃ v H2, ResV _ _ _ _ _ _ v ∧ Sub H2 _ ∧ _
  exact ⟨_, H, resV rfl (.cons rfl .nil), (by repeat (first | exact Sub.refl _ | apply Sub.drop)), ⟨rfl, rfl⟩⟩
set_option maxRecDepth 100000 in
set_option maxHeartbeats 400000 in
theorem pnowN_s (H : SHeap) : AC Try.prog W0 28 [.pointer none] H (fun v H' => v = .int .i64 0 ∧ H' = H) := by
  refine ac_of Try.func28 rfl rfl rfl ?_
  refine aw_seq_region ?_
  refine sr_as ?_
  refine sr_nil ?_
  refine aw_kp [0, 2] ?_
  refine aw_seq ?_
  refine aw_seq_region ?_
  refine sr_mv ?_
  refine sr_d rfl (wtd_none rfl) rfl (opS_call rfl rfl rfl rfl cl90 (pnoneN_s _)) ?_
  rintro _ H ⟨rfl, rfl⟩
  refine sr_nil ?_
  refine aw_kp [0, 2, 4] ?_
  refine aw_true rfl ?_
  refine aw_seq_region ?_
  refine sr_as ?_
  refine sr_nil ?_
  refine aw_kp [0, 2] ?_
  refine aw_ret ?_
  show ∃ v H2, ResV _ _ _ _ _ _ v ∧ Sub H2 _ ∧ _
  exact ⟨_, H, resV rfl (.cons rfl .nil), (by repeat (first | exact Sub.refl _ | apply Sub.drop)), ⟨rfl, rfl⟩⟩
set_option maxRecDepth 100000 in
set_option maxHeartbeats 400000 in
theorem pver_s (p : Nat) (a : Option Addr) (cap : Nat) (S : List PStep) (ver : Int) (H : SHeap) (hc : Cells W0 H p 0 [.slice a S.length cap, .int .i64 ver]) (hs : SlV W0 H 2 PStep.cells a cap S) (h0 : 0 < S.length) : AC Try.prog W0 29 [.pointer (some ⟨p, 0, none⟩)] H (fun v H' => v = .int .i64 ver ∧ H' = H) := by
  refine ac_of Try.func29 rfl rfl rfl ?_
  refine aw_seq_region ?_
  refine sr_as ?_
  refine sr_nil ?_
  refine aw_kp [0, 2] ?_
  refine aw_seq ?_
  refine aw_seq_region ?_
  refine sr_mv ?_
  refine sr_d rfl (wtd_none rfl) rfl (opS_call rfl rfl rfl rfl cl90 (pnone_s p a cap S ver _ (Cells.mono hc Sub.autoR) (hs.mono Sub.autoR) h0)) ?_
  rintro _ H ⟨rfl, rfl⟩
  refine sr_nil ?_
  refine aw_kp [0, 2, 4] ?_
  refine aw_false rfl ?_
  refine aw_skip ?_
  show AW _ _ _ _ _ _ _
  refine aw_seq_region ?_
  refine sr_mv ?_
  refine sr_rd (x_nilCheck rfl) ?_
  refine sr_rd (x_fieldAddr fd83_1 rfl) ?_
  refine sr_rd (x_load ag3 rfl (cells_get (Cells.mono hc Sub.autoR) 1 rfl)) ?_
  refine sr_as ?_
  refine sr_nil ?_
  refine aw_kp [2] ?_
  refine aw_ret ?_
  show ∃ v H2, ResV _ _ _ _ _ _ v ∧ Sub H2 _ ∧ _
  exact ⟨_, H, resV rfl (.cons rfl .nil), (by repeat (first | exact Sub.refl _ | apply Sub.drop)), ⟨rfl, rfl⟩⟩
set_option maxRecDepth 100000 in
set_option maxHeartbeats 400000 in
theorem pverN_s (H : SHeap) : AC Try.prog W0 29 [.pointer none] H (fun v H' => v = .int .i64 0 ∧ H' = H) := by
  refine ac_of Try.func29 rfl rfl rfl ?_
  refine aw_seq_region ?_
  refine sr_as ?_
  refine sr_nil ?_
  refine aw_kp [0, 2] ?_
  refine aw_seq ?_
  refine aw_seq_region ?_
  refine sr_mv ?_
  refine sr_d rfl (wtd_none rfl) rfl (opS_call rfl rfl rfl rfl cl90 (pnoneN_s _)) ?_
  rintro _ H ⟨rfl, rfl⟩
  refine sr_nil ?_
  refine aw_kp [0, 2, 4] ?_
  refine aw_true rfl ?_
  refine aw_seq_region ?_
  refine sr_as ?_
  refine sr_nil ?_
  refine aw_kp [0, 2] ?_
  refine aw_ret ?_
  show ∃ v H2, ResV _ _ _ _ _ _ v ∧ Sub H2 _ ∧ _
  exact ⟨_, H, resV rfl (.cons rfl .nil), (by repeat (first | exact Sub.refl _ | apply Sub.drop)), ⟨rfl, rfl⟩⟩
set_option maxRecDepth 100000 in
set_option maxHeartbeats 400000 in
theorem pclone_s (a : Option Addr) (cap : Nat) (xs : List PStep) (H : SHeap) (hs : SlV W0 H 2 PStep.cells a cap xs) (hjl : xs.length ≤ 1000000) : AC Try.prog W0 94 [.slice a xs.length cap] H (fun v H' => ∃ E2, (∃ a2 cap2, OwnVec 2 76 (.slice a2 xs.length cap2) xs.length (xs.flatMap PStep.cells) E2 ∧ v = .slice a2 xs.length cap2) ∧ H' = E2 ++ H) := by
  have hfl := flat_len (n := 2) (enc := PStep.cells) (fun _ => rfl) xs
  have hfn : a.isNone = true → xs.length = 0 := fun h => by rcases hs.flat (fun _ => rfl) (by omega) with ⟨q, _⟩ | ⟨b, off, rfl, _⟩ <;> first | exact q | cases h
  refine ac_of Try.func94 rfl rfl rfl ?_
  refine aw_seq_region ?_
  refine sr_as ?_
  refine sr_nil ?_
  refine aw_kp [0, 2] ?_
  refine aw_seq ?_
  refine aw_seq_region ?_
  refine sr_mv ?_
  refine sr_rd (x_eqnils Try.underlying43 rfl rfl) ?_
  refine sr_nil ?_
  refine aw_kp [0, 2, 4] ?_
  refine aw_cond rfl (fun hb1 => ?_) (fun hb1 => ?_)
  · refine aw_seq_region ?_
    refine sr_as ?_
    refine sr_nil ?_
    refine aw_kp [0, 2] ?_
    refine aw_ret ?_
    show ∃ v H2, ResV _ _ _ _ _ _ v ∧ Sub H2 _ ∧ _
    first | (rw [Nat.zero_add, List.nil_append] at hV7; obtain ⟨a7, cap7, rfl⟩ := hV7.isSl; exact ⟨_, E7 ++ H, resV rfl (.cons rfl .nil), (Sub.refl _), E7, ⟨a7, cap7, hV7, rfl⟩, rfl⟩) | (have hz := hfn (by assumption); have hj0 : xs = [] := List.length_eq_zero_iff.1 hz; subst hj0; exact ⟨_, [] ++ H, resV rfl (.cons rfl .nil), (Sub.refl _), [], ⟨none, 0, .nil, rfl⟩, rfl⟩)
  · refine aw_skip ?_
    show AW _ _ _ _ _ _ _
    refine aw_seq_region ?_
    refine sr_new rfl (wtd_none rfl) rfl (x_buildSlice0 Try.underlying43 sz76 rfl) ?_
    intro r3_0 hr3_0 gr3_0
    refine sr_mv ?_
    refine sr_d rfl (wtd_none rfl) rfl (opS_append (G := H) (N := xs.flatMap PStep.cells) (m := xs.length) Try.underlying43 sz76 zr76 rfl by76 rfl rfl (OwnVec.mk (r := r3_0) (n := 0) (cap := 0) (L := []) (post := []) rfl rfl (by omega) (by omega)) Sub.autoP (((hs.mono (by repeat (first | exact Sub.refl _ | apply Sub.drop))).flat (fun _ => rfl) (by omega))) (hfl) (all_oneS xs) (by omega) (by omega)) ?_
    rintro v7 _ ⟨E7, hV7, rfl⟩
    refine sr_as ?_
    refine sr_nil ?_
    refine aw_kp [2] ?_
    refine aw_ret ?_
    show ∃ v H2, ResV _ _ _ _ _ _ v ∧ Sub H2 _ ∧ _
    first | (rw [Nat.zero_add, List.nil_append] at hV7; obtain ⟨a7, cap7, rfl⟩ := hV7.isSl; exact ⟨_, E7 ++ H, resV rfl (.cons rfl .nil), (Sub.refl _), E7, ⟨a7, cap7, hV7, rfl⟩, rfl⟩) | (have hz := hfn (by assumption); have hj0 : xs = [] := List.length_eq_zero_iff.1 hz; subst hj0; exact ⟨_, [] ++ H, resV rfl (.cons rfl .nil), (Sub.refl _), [], ⟨none, 0, .nil, rfl⟩, rfl⟩)
set_option maxRecDepth 100000 in
set_option maxHeartbeats 400000 in
theorem psteps_s (p : Nat) (a : Option Addr) (cap : Nat) (S : List PStep) (ver : Int) (H : SHeap) (hc : Cells W0 H p 0 [.slice a S.length cap, .int .i64 ver]) (hs : SlV W0 H 2 PStep.cells a cap S) (h0 : 0 < S.length) (hl : S.length ≤ 1000000) : AC Try.prog W0 31 [.pointer (some ⟨p, 0, none⟩)] H (fun v H' => ∃ E2, (∃ a2 cap2, OwnVec 2 76 (.slice a2 S.length cap2) S.length (S.flatMap PStep.cells) E2 ∧ v = .slice a2 S.length cap2) ∧ H' = E2 ++ H) := by
  refine ac_of Try.func31 rfl rfl rfl ?_
  refine aw_seq_region ?_
  refine sr_as ?_
  refine sr_nil ?_
  refine aw_kp [0, 2] ?_
  refine aw_seq ?_
  refine aw_seq_region ?_
  refine sr_mv ?_
  refine sr_d rfl (wtd_none rfl) rfl (opS_call rfl rfl rfl rfl cl90 (pnone_s p a cap S ver _ (Cells.mono hc Sub.autoR) (hs.mono Sub.autoR) h0)) ?_
  rintro _ H ⟨rfl, rfl⟩
  refine sr_nil ?_
  refine aw_kp [0, 2, 4] ?_
  refine aw_false rfl ?_
  refine aw_skip ?_
  show AW _ _ _ _ _ _ _
  refine aw_seq_region ?_
  refine sr_mv ?_
  refine sr_rd (x_nilCheck rfl) ?_
  refine sr_rd (x_fieldAddr fd83_0 rfl) ?_
  refine sr_rd (x_load ag43 rfl (cells_get (Cells.mono hc Sub.autoR) 0 rfl)) ?_
  refine sr_d rfl (wtd_none rfl) rfl (opS_call rfl rfl rfl rfl cl94 (pclone_s a cap S _ hs hl)) ?_
  rintro _ _ ⟨E2, ⟨a2, cap2, V2, rfl⟩, rfl⟩
  refine sr_as ?_
  refine sr_nil ?_
  refine aw_kp [2] ?_
  refine aw_ret ?_
  show ∃ v H2, ResV _ _ _ _ _ _ v ∧ Sub H2 _ ∧ _
  exact ⟨_, (E2 ++ H), resV rfl (.cons rfl .nil), (by repeat (first | exact Sub.refl _ | apply Sub.drop)), ⟨E2, ⟨a2, cap2, V2, rfl⟩, rfl⟩⟩
set_option maxRecDepth 100000 in
set_option maxHeartbeats 400000 in
theorem pstepsN_s (H : SHeap) : AC Try.prog W0 31 [.pointer none] H (fun v H' => v = .slice none 0 0 ∧ H' = H) := by
  refine ac_of Try.func31 rfl rfl rfl ?_
  refine aw_seq_region ?_
  refine sr_as ?_
  refine sr_nil ?_
  refine aw_kp [0, 2] ?_
  refine aw_seq ?_
  refine aw_seq_region ?_
  refine sr_mv ?_
  refine sr_d rfl (wtd_none rfl) rfl (opS_call rfl rfl rfl rfl cl90 (pnoneN_s _)) ?_
  rintro _ H ⟨rfl, rfl⟩
  refine sr_nil ?_
  refine aw_kp [0, 2, 4] ?_
  refine aw_true rfl ?_
  refine aw_seq_region ?_
  refine sr_as ?_
  refine sr_nil ?_
  refine aw_kp [0, 2] ?_
  refine aw_ret ?_
  show ∃ v H2, ResV _ _ _ _ _ _ v ∧ Sub H2 _ ∧ _
  exact ⟨_, H, resV rfl (.cons rfl .nil), (by repeat (first | exact Sub.refl _ | apply Sub.drop)), ⟨rfl, rfl⟩⟩
set_option maxRecDepth 100000 in
set_option maxHeartbeats 400000 in
theorem pcopy_s (p : Nat) (a : Option Addr) (cap : Nat) (S : List PStep) (ver : Int) (H : SHeap) (hc : Cells W0 H p 0 [.slice a S.length cap, .int .i64 ver]) (hs : SlV W0 H 2 PStep.cells a cap S) (h0 : 0 < S.length) (hl : S.length ≤ 1000000) : AC Try.prog W0 37 [.pointer (some ⟨p, 0, none⟩)] H (fun v H' => ∃ q a2 cap2 E2, v = .pointer (some ⟨q, 0, none⟩) ∧ OwnVec 2 76 (.slice a2 S.length cap2) S.length (S.flatMap PStep.cells) E2 ∧ H' = prB q (.slice a2 S.length cap2) ver :: (E2 ++ H)) := by
  refine ac_of Try.func37 rfl rfl rfl ?_
  refine aw_seq_region ?_
  refine sr_as ?_
  refine sr_nil ?_
  refine aw_kp [0, 2] ?_
  refine aw_seq ?_
  refine aw_seq_region ?_
  refine sr_mv ?_
  refine sr_d rfl (wtd_none rfl) rfl (opS_call rfl rfl rfl rfl cl90 (pnone_s p a cap S ver _ (Cells.mono hc Sub.autoR) (hs.mono Sub.autoR) h0)) ?_
  rintro _ H ⟨rfl, rfl⟩
  refine sr_nil ?_
  refine aw_kp [0, 2, 4] ?_
  refine aw_false rfl ?_
  refine aw_skip ?_
  show AW _ _ _ _ _ _ _
  refine aw_seq_dr ⟨_, 9, 13, [[], [0], [], [2], [2, 3], [2, 3, 4], [0, 1, 2, 3, 4, 5], [0, 1, 2, 3, 4, 5, 6], [0, 1, 2, 3, 4, 5, 6, 7]], [.light, .call, .light, .light, .light, .mem, .light, .alloc, .light]⟩ (by kernel_rfl) rfl rfl mix ?_
  refine dr_l (x_move rfl) ?_
  refine dr_call rfl (V := []) rfl rfl (wtd_none rfl) (opS_F rfl rfl rfl rfl cl31 (psteps_s p a cap S ver _ (Cells.mono hc Sub.autoR) (hs.mono Sub.autoR) h0 hl)) (ownvec_freshE (by rw [flat_len (n := 2) (fun _ => rfl)]) (by omega)) ?_
  rintro _ EC ⟨aC, cC, VC, rfl⟩
  refine dr_l (x_move rfl) ?_
  refine dr_l (x_nilCheck rfl) ?_
  refine dr_l (x_fieldAddr fd83_1 rfl) ?_
  refine dr_mem rfl (V := []) rfl rfl (wtd_none rfl) (x_load ag3 rfl (cells_get (Cells.mono hc Sub.autoR) 1 rfl)) ?_
  refine dr_l (x_build zr83 rfl fl83 Parts.auto Fill.auto) ?_
  refine dr_alloc rfl rfl (wtd_none rfl) (x_box rfl rfl) ?_
  intro r3_7 hr3_7 gr3_7
  refine dr_l (x_assign rfl) ?_
  refine dr_nil (E := EC ++ [prB r3_7 (.slice aC S.length cC) ver]) rfl ?_
  refine aw_kp [2] ?_
  refine aw_sub sub_mid ?_
  refine aw_ret ?_
  show ∃ v H2, ResV _ _ _ _ _ _ v ∧ Sub H2 _ ∧ _
  exact ⟨_, (prB r3_7 (.slice aC S.length cC) ver :: (EC ++ H)), resV rfl (.cons rfl .nil), Sub.autoP, ⟨r3_7, aC, cC, EC, rfl, VC, rfl⟩⟩
set_option maxRecDepth 100000 in
set_option maxHeartbeats 400000 in
theorem pcopyN_s (H : SHeap) : AC Try.prog W0 37 [.pointer none] H (fun v H' => v = .pointer none ∧ H' = H) := by
  refine ac_of Try.func37 rfl rfl rfl ?_
  refine aw_seq_region ?_
  refine sr_as ?_
  refine sr_nil ?_
  refine aw_kp [0, 2] ?_
  refine aw_seq ?_
  refine aw_seq_region ?_
  refine sr_mv ?_
  refine sr_d rfl (wtd_none rfl) rfl (opS_call rfl rfl rfl rfl cl90 (pnoneN_s _)) ?_
  rintro _ H ⟨rfl, rfl⟩
  refine sr_nil ?_
  refine aw_kp [0, 2, 4] ?_
  refine aw_true rfl ?_
  refine aw_seq_region ?_
  refine sr_as ?_
  refine sr_nil ?_
  refine aw_kp [0, 2] ?_
  refine aw_ret ?_
  show ∃ v H2, ResV _ _ _ _ _ _ v ∧ Sub H2 _ ∧ _
  exact ⟨_, H, resV rfl (.cons rfl .nil), (by repeat (first | exact Sub.refl _ | apply Sub.drop)), ⟨rfl, rfl⟩⟩
set_option maxRecDepth 100000 in
set_option maxHeartbeats 400000 in
theorem pcopyZ_s (z : Nat) (H : SHeap) (hc : Cells W0 H z 0 [.slice none 0 0, .int .i64 0]) : AC Try.prog W0 37 [.pointer (some ⟨z, 0, none⟩)] H (fun v H' => v = .pointer none ∧ H' = H) := by
  refine ac_of Try.func37 rfl rfl rfl ?_
  refine aw_seq_region ?_
  refine sr_as ?_
  refine sr_nil ?_
  refine aw_kp [0, 2] ?_
  refine aw_seq ?_
  refine aw_seq_region ?_
  refine sr_mv ?_
  refine sr_d rfl (wtd_none rfl) rfl (opS_call rfl rfl rfl rfl cl90 (pnoneZ_s z _ (Cells.mono hc Sub.autoR))) ?_
  rintro _ H ⟨rfl, rfl⟩
  refine sr_nil ?_
  refine aw_kp [0, 2, 4] ?_
  refine aw_true rfl ?_
  refine aw_seq_region ?_
  refine sr_as ?_
  refine sr_nil ?_
  refine aw_kp [0, 2] ?_
  refine aw_ret ?_
  show ∃ v H2, ResV _ _ _ _ _ _ v ∧ Sub H2 _ ∧ _
  exact ⟨_, H, resV rfl (.cons rfl .nil), (by repeat (first | exact Sub.refl _ | apply Sub.drop)), ⟨rfl, rfl⟩⟩
set_option maxRecDepth 100000 in
set_option maxHeartbeats 400000 in
theorem pstc_s (x : PStep) (t : Int) (H : SHeap) : AC Try.prog W0 124 [PStep.v x, .int .i64 t] H (fun v H' => v = .int .i64 (stC t x) ∧ H' = H) := by
  refine ac_of Try.func124 rfl rfl rfl ?_
  refine aw_seq_region ?_
  refine sr_new rfl (wtd_none rfl) rfl (x_box rfl rfl) ?_
  intro r0_0 hr0_0 gr0_0
  refine sr_as ?_
  refine sr_nil ?_
  refine aw_kp [1, 2, 4] ?_
  refine aw_seq ?_
  refine aw_block ?_
  refine aw_seq_region ?_
  refine sr_rd (x_fieldAddr fd76_0 rfl) ?_
  refine sr_rd (x_load ag2 rfl (cells_ext mauto Ext.auto)) ?_
  refine sr_mv ?_
  refine sr_c (x_lt rfl rfl) (fun h1 => ?_) (fun h1 => ?_)
  · refine sr_as ?_
    refine sr_nil ?_
    refine aw_kp [1, 2, 4, 5] ?_
    refine aw_true rfl ?_
    refine aw_seq_region ?_
    refine sr_as ?_
    refine sr_nil ?_
    refine aw_kp [4] ?_
    refine aw_ret ?_
    show ∃ v H2, ResV _ _ _ _ _ _ v ∧ Sub H2 _ ∧ _
    exact ⟨_, H, resV rfl (.cons rfl .nil), Sub.autoR, ⟨congrArg (Value.int .i64) (by unfold stC; first | rw [if_pos (by omega)] | rw [if_neg (by omega), if_pos (by omega)] | rw [if_neg (by omega), if_neg (by omega)]), rfl⟩⟩
  · refine sr_as ?_
    refine sr_nil ?_
    refine aw_kp [1, 2, 4, 5] ?_
    refine aw_false rfl ?_
    refine aw_seq_region ?_
    refine sr_rd (x_fieldAddr fd76_0 rfl) ?_
    refine sr_rd (x_load ag2 rfl (cells_ext mauto Ext.auto)) ?_
    refine sr_mv ?_
    refine sr_c (x_gt rfl rfl) (fun h2 => ?_) (fun h2 => ?_)
    · refine sr_as ?_
      refine sr_nil ?_
      refine aw_kp [4, 10] ?_
      refine aw_true rfl ?_
      refine aw_seq_region ?_
      refine sr_as ?_
      refine sr_nil ?_
      refine aw_kp [4] ?_
      refine aw_ret ?_
      show ∃ v H2, ResV _ _ _ _ _ _ v ∧ Sub H2 _ ∧ _
      exact ⟨_, H, resV rfl (.cons rfl .nil), Sub.autoR, ⟨congrArg (Value.int .i64) (by unfold stC; first | rw [if_pos (by omega)] | rw [if_neg (by omega), if_pos (by omega)] | rw [if_neg (by omega), if_neg (by omega)]), rfl⟩⟩
    · refine sr_as ?_
      refine sr_nil ?_
      refine aw_kp [4, 10] ?_
      refine aw_false rfl ?_
      refine aw_skip ?_
      show AW _ _ _ _ _ _ _
      refine aw_seq_region ?_
      refine sr_as ?_
      refine sr_nil ?_
      refine aw_kp [4] ?_
      refine aw_ret ?_
      show ∃ v H2, ResV _ _ _ _ _ _ v ∧ Sub H2 _ ∧ _
      exact ⟨_, H, resV rfl (.cons rfl .nil), Sub.autoR, ⟨congrArg (Value.int .i64) (by unfold stC; first | rw [if_pos (by omega)] | rw [if_neg (by omega), if_pos (by omega)] | rw [if_neg (by omega), if_neg (by omega)]), rfl⟩⟩
set_option maxRecDepth 100000 in
set_option maxHeartbeats 1000000 in
theorem pbs_s (a : Option Addr) (cap : Nat) (xs : List PStep) (t : Int) (c : PStep → Int) (H : SHeap) (hs : SlV W0 H 2 PStep.cells a cap xs) (hn : xs.length ≤ 1000000) (hf : ∀ x ∈ xs, ∀ H, AC Try.prog W0 124 [PStep.v x, .int .i64 t] H (fun v H' => v = .int .i64 (c x) ∧ H' = H)) (hmono : ∀ (i j : Nat) (x y : PStep), i ≤ j → xs[i]? = some x → xs[j]? = some y → 0 ≤ c x → 0 ≤ c y) : AC Try.prog W0 123 [.slice a xs.length cap, .int .i64 t, .func (.func 124) #[] #[]] H (fun v H' => (∃ (i : Nat) (ok : Bool), v = .tuple #[.int .i64 i, .bool ok] ∧ i ≤ xs.length ∧ (∀ k x, k < i → xs[k]? = some x → c x < 0) ∧ (∀ k x, i ≤ k → xs[k]? = some x → 0 ≤ c x) ∧ (ok = true ↔ ∃ x, xs[i]? = some x ∧ c x = 0)) ∧ H' = H) := by
  have hle := hs.le
  have hcb := hs.capb
  refine ac_of Try.func123 rfl rfl rfl ?_
  refine aw_seq_region ?_
  refine sr_as ?_
  refine sr_as ?_
  refine sr_nil ?_
  refine aw_kp [0, 1, 2, 6, 7] ?_
  refine aw_seq_region ?_
  refine sr_mv ?_
  refine sr_rd (x_lenSlice Try.underlying43 rfl) ?_
  refine sr_as ?_
  refine sr_nil ?_
  refine aw_kp [0, 1, 2, 6, 7, 8] ?_
  refine aw_seq_region ?_
  refine sr_mv ?_
  refine sr_as ?_
  refine sr_as ?_
  refine sr_nil ?_
  refine aw_kp [0, 1, 2, 6, 7, 8, 9, 10] ?_
  refine aw_seq ?_
  refine aw_block ?_
  refine aw_loop (ι := Nat × Nat) (fun s => s.1 ≤ s.2 ∧ s.2 ≤ xs.length ∧ (∀ k x, k < s.1 → xs[k]? = some x → c x < 0) ∧ (∀ k x, s.2 ≤ k → xs[k]? = some x → 0 ≤ c x)) (fun s => [(0, .slice a xs.length cap), (1, .int .i64 t), (2, .func (.func 124) #[] #[]), (8, .int .i64 xs.length), (9, .int .i64 s.1), (10, .int .i64 s.2)]) (fun _ => H) (fun s => s.2 - s.1) (0, xs.length) (⟨Nat.zero_le _, Nat.le_refl _, fun k x h => by omega, fun k x h hx => by have := get_lt hx; simp only at h; omega⟩) KeepF.auto (by repeat (first | exact Sub.refl _ | apply Sub.drop)) ?_
  intro s hs9
  obtain ⟨i, j⟩ := s
  obtain ⟨h9a, h9b, h9c, h9d⟩ := hs9
  simp only at h9a h9b h9c h9d ⊢
  refine aw_seq ?_
  refine aw_seq_region ?_
  refine sr_mv ?_
  refine sr_mv ?_
  refine sr_c (x_lt rfl rfl) (fun h1 => ?_) (fun h1 => ?_)
  · refine sr_nil ?_
    refine aw_kp [0, 1, 2, 8, 9, 10, 15, 16, 17] ?_
    refine aw_true rfl ?_
    refine aw_skip ?_
    show AW _ _ _ _ _ _ _
    refine aw_block ?_
    refine aw_seq_region ?_
    refine sr_mv ?_
    refine sr_mv ?_
    refine sr_rd (x_add' rfl rfl (i64w (by omega) (by omega))) ?_
    refine sr_rd (x_conv' Try.underlying3 Try.underlying182 rfl (u64w (by omega) (by omega))) ?_
    refine sr_rd (x_cast (x_shr rfl rfl (by omega)) (shr1 i j)) ?_
    refine sr_rd (x_conv' Try.underlying182 Try.underlying3 rfl (i64w (by omega) (by omega))) ?_
    refine sr_as ?_
    refine sr_nil ?_
    refine aw_kp [0, 1, 2, 8, 9, 10, 11, 15, 16, 17, 18, 19, 20, 21, 22, 23] ?_
    refine aw_seq_region ?_
    obtain ⟨x, hx⟩ := get_ex (show (i + j) / 2 < xs.length by omega)
    obtain ⟨bx, ox, ha, hcx⟩ := hs.at_ _ _ hx
    refine sr_mv ?_
    refine sr_mv ?_
    refine sr_mv ?_
    refine sr_rd (x_indexAddrN ((i + j) / 2) Try.underlying43 sz76 rfl ha rfl (by omega) (by omega)) ?_
    refine sr_rd (x_loadN ag76 sz76 rfl (Cells.mono hcx (by repeat (first | exact Sub.refl _ | apply Sub.drop))) rfl) ?_
    refine sr_mv ?_
    refine sr_d rfl (wtd_none rfl) rfl (opS_call rfl rfl rfl rfl cl124 (hf x (List.mem_of_getElem? hx) _)) ?_
    rintro _ H ⟨rfl, rfl⟩
    refine sr_c (x_lt rfl rfl) (fun h2 => ?_) (fun h2 => ?_)
    · refine sr_nil ?_
      refine aw_kp [0, 1, 2, 8, 9, 10, 11, 15, 16, 17, 18, 19, 20, 21, 22, 23, 24, 25, 26, 27, 28, 29, 30, 31] ?_
      refine aw_true rfl ?_
      refine aw_region ?_
      refine sr_mv ?_
      refine sr_rd (x_add' rfl rfl (i64w (by omega) (by omega))) ?_
      refine sr_as ?_
      refine sr_nil ?_
      show ∃ s', _ ∧ _ ∧ _ ∧ _
      first | exact ⟨((i + j) / 2 + 1, j), ⟨by dsimp only; omega, h9b, bs_lo hx hmono (by omega), h9d⟩, by dsimp only; omega, KeepF.auto, (by repeat (first | exact Sub.refl _ | apply Sub.drop))⟩ | exact ⟨(i, (i + j) / 2), ⟨by dsimp only; omega, by dsimp only; omega, h9c, bs_hi hx hmono (by omega)⟩, by dsimp only; omega, KeepF.auto, (by repeat (first | exact Sub.refl _ | apply Sub.drop))⟩
    · refine sr_nil ?_
      refine aw_kp [0, 1, 2, 8, 9, 10, 11, 15, 16, 17, 18, 19, 20, 21, 22, 23, 24, 25, 26, 27, 28, 29, 30, 31] ?_
      refine aw_false rfl ?_
      refine aw_region ?_
      refine sr_mv ?_
      refine sr_as ?_
      refine sr_nil ?_
      show ∃ s', _ ∧ _ ∧ _ ∧ _
      first | exact ⟨((i + j) / 2 + 1, j), ⟨by dsimp only; omega, h9b, bs_lo hx hmono (by omega), h9d⟩, by dsimp only; omega, KeepF.auto, (by repeat (first | exact Sub.refl _ | apply Sub.drop))⟩ | exact ⟨(i, (i + j) / 2), ⟨by dsimp only; omega, by dsimp only; omega, h9c, bs_hi hx hmono (by omega)⟩, by dsimp only; omega, KeepF.auto, (by repeat (first | exact Sub.refl _ | apply Sub.drop))⟩
  · refine sr_nil ?_
    refine aw_kp [0, 1, 2, 8, 9, 10, 15, 16, 17] ?_
    refine aw_false rfl ?_
    refine aw_exit ?_
    show AW _ _ _ _ _ _ _
    refine aw_seq_region ?_
    refine sr_mv ?_
    refine sr_mv ?_
    refine sr_mv ?_
    refine sr_c (x_lt rfl rfl) (fun h3 => ?_) (fun h3 => ?_)
    · refine sr_mv ?_
      obtain ⟨x, hx⟩ := get_ex (show i < xs.length by omega)
      obtain ⟨bx, ox, ha, hcx⟩ := hs.at_ _ _ hx
      refine sr_ry (x_move rfl) ?_
      refine sr_ry (x_move rfl) ?_
      refine sr_ry (x_move rfl) ?_
      refine sr_ry (x_indexAddrN i Try.underlying43 sz76 rfl ha rfl (by omega) (by omega)) ?_
      refine sr_ry (x_loadN ag76 sz76 rfl (Cells.mono hcx (by repeat (first | exact Sub.refl _ | apply Sub.drop))) rfl) ?_
      refine sr_ry (x_move rfl) ?_
      refine sr_d rfl (wtd_yes rfl rfl rfl) rfl (opS_call rfl rfl rfl rfl cl124 (hf x (List.mem_of_getElem? hx) _)) ?_
      rintro _ H ⟨rfl, rfl⟩
      refine sr_cy (x_eq rfl rfl) (fun h4 => ?_) (fun h4 => ?_)
      · refine sr_rd (x_pick_t rfl rfl rfl) ?_
        refine sr_as ?_
        refine sr_as ?_
        refine sr_nil ?_
        refine aw_kp [6, 7] ?_
        refine aw_ret ?_
        show ∃ v H2, ResV _ _ _ _ _ _ v ∧ Sub H2 _ ∧ _
        exact ⟨_, H, resV rfl (.cons rfl (.cons rfl .nil)), (by repeat (first | exact Sub.refl _ | apply Sub.drop)), (by (have e9 : i = j := by omega); subst e9; first | exact ⟨⟨i, true, rfl, h9b, h9c, h9d, ⟨fun _ => ⟨x, hx, by assumption⟩, fun _ => rfl⟩⟩, rfl⟩ | exact ⟨⟨i, false, rfl, h9b, h9c, h9d, ⟨(fun h => nomatch h), fun ⟨y, hy, hy0⟩ => by first | (have := get_lt hy; exfalso; omega) | (rw [hx] at hy; cases hy; exact absurd hy0 (by assumption))⟩⟩, rfl⟩)⟩
      · refine sr_rd (x_pick_t rfl rfl rfl) ?_
        refine sr_as ?_
        refine sr_as ?_
        refine sr_nil ?_
        refine aw_kp [6, 7] ?_
        refine aw_ret ?_
        show ∃ v H2, ResV _ _ _ _ _ _ v ∧ Sub H2 _ ∧ _
        exact ⟨_, H, resV rfl (.cons rfl (.cons rfl .nil)), (by repeat (first | exact Sub.refl _ | apply Sub.drop)), (by (have e9 : i = j := by omega); subst e9; first | exact ⟨⟨i, true, rfl, h9b, h9c, h9d, ⟨fun _ => ⟨x, hx, by assumption⟩, fun _ => rfl⟩⟩, rfl⟩ | exact ⟨⟨i, false, rfl, h9b, h9c, h9d, ⟨(fun h => nomatch h), fun ⟨y, hy, hy0⟩ => by first | (have := get_lt hy; exfalso; omega) | (rw [hx] at hy; cases hy; exact absurd hy0 (by assumption))⟩⟩, rfl⟩)⟩
    · refine sr_mv ?_
      refine sr_sk ?_
      refine sr_sk ?_
      refine sr_sk ?_
      refine sr_sk ?_
      refine sr_sk ?_
      refine sr_sk ?_
      refine sr_sk ?_
      refine sr_sk ?_
      refine sr_rd (x_pick_f rfl rfl rfl) ?_
      refine sr_as ?_
      refine sr_as ?_
      refine sr_nil ?_
      refine aw_kp [6, 7] ?_
      refine aw_ret ?_
      show ∃ v H2, ResV _ _ _ _ _ _ v ∧ Sub H2 _ ∧ _
      exact ⟨_, H, resV rfl (.cons rfl (.cons rfl .nil)), (by repeat (first | exact Sub.refl _ | apply Sub.drop)), (by (have e9 : i = j := by omega); subst e9; first | exact ⟨⟨i, true, rfl, h9b, h9c, h9d, ⟨fun _ => ⟨x, hx, by assumption⟩, fun _ => rfl⟩⟩, rfl⟩ | exact ⟨⟨i, false, rfl, h9b, h9c, h9d, ⟨(fun h => nomatch h), fun ⟨y, hy, hy0⟩ => by first | (have := get_lt hy; exfalso; omega) | (rw [hx] at hy; cases hy; exact absurd hy0 (by assumption))⟩⟩, rfl⟩)⟩
set_option maxRecDepth 100000 in
set_option maxHeartbeats 400000 in
theorem pidx_s (p : Nat) (a : Option Addr) (cap : Nat) (S : List PStep) (ver : Int) (H : SHeap) (hc : Cells W0 H p 0 [.slice a S.length cap, .int .i64 ver]) (hs : SlV W0 H 2 PStep.cells a cap S) (t : Int) (hr : Ris S) (h0 : 0 < S.length) (hl : S.length ≤ 1000000) : AC Try.prog W0 91 [.pointer (some ⟨p, 0, none⟩), .int .i64 t] H (fun v H' => (∃ i : Nat, v = .int .i64 i ∧ IdxOk S t i) ∧ H' = H) := by
  refine ac_of Try.func91 rfl rfl rfl ?_
  refine aw_seq_region ?_
  refine sr_as ?_
  refine sr_nil ?_
  refine aw_kp [0, 1, 4] ?_
  refine aw_seq_region ?_
  refine sr_mv ?_
  refine sr_rd (x_nilCheck rfl) ?_
  refine sr_rd (x_fieldAddr fd83_0 rfl) ?_
  refine sr_rd (x_load ag43 rfl (cells_get (Cells.mono hc Sub.autoR) 0 rfl)) ?_
  refine sr_mv ?_
  refine sr_d rfl (wtd_none rfl) rfl (opS_call rfl rfl rfl rfl cl123 (pbs_s a cap S t (stC t) _ hs hl (fun x _ H => pstc_s x t H) (stC_mono hr))) ?_
  rintro _ H ⟨⟨i, ok, rfl, hi1, hi2, hi3, hok⟩, rfl⟩
  cases ok
  · refine sr_mv ?_
    refine sr_rd (x_extract rfl rfl) ?_
    refine sr_rd (x_extract rfl rfl) ?_
    refine sr_as ?_
    refine sr_as ?_
    refine sr_nil ?_
    refine aw_kp [4, 5, 6] ?_
    refine aw_seq ?_
    refine aw_seq_region ?_
    refine sr_mv ?_
    refine sr_rd (x_not rfl) ?_
    refine sr_nil ?_
    refine aw_kp [4, 5, 17] ?_
    refine aw_true rfl ?_
    refine aw_region ?_
    refine sr_mv ?_
    refine sr_rd (x_sub' rfl rfl (i64w (by omega) (by omega))) ?_
    refine sr_as ?_
    refine sr_nil ?_
    show AW _ _ _ _ _ _ _
    refine aw_seq_region ?_
    refine sr_mv ?_
    refine sr_rd (x_max rfl rfl) ?_
    refine sr_as ?_
    refine sr_nil ?_
    refine aw_kp [4] ?_
    refine aw_ret ?_
    show ∃ v H2, ResV _ _ _ _ _ _ v ∧ Sub H2 _ ∧ _
    first | exact ⟨_, H, resV rfl (.cons rfl .nil), Sub.refl _, ⟨i, congrArg (Value.int .i64) (by omega), idx_found hr hi1 hi2 (hok.1 rfl)⟩, rfl⟩ | exact ⟨_, H, resV rfl (.cons rfl .nil), Sub.refl _, ⟨i - 1, congrArg (Value.int .i64) (by omega), idx_ahead hr h0 hi1 hi2 hi3 (fun x hx hz => by have := hok.2 ⟨x, hx, hz⟩; cases this)⟩, rfl⟩
  · refine sr_mv ?_
    refine sr_rd (x_extract rfl rfl) ?_
    refine sr_rd (x_extract rfl rfl) ?_
    refine sr_as ?_
    refine sr_as ?_
    refine sr_nil ?_
    refine aw_kp [4, 5, 6] ?_
    refine aw_seq ?_
    refine aw_seq_region ?_
    refine sr_mv ?_
    refine sr_rd (x_not rfl) ?_
    refine sr_nil ?_
    refine aw_kp [4, 5, 17] ?_
    refine aw_false rfl ?_
    refine aw_skip ?_
    show AW _ _ _ _ _ _ _
    refine aw_seq_region ?_
    refine sr_mv ?_
    refine sr_rd (x_max rfl rfl) ?_
    refine sr_as ?_
    refine sr_nil ?_
    refine aw_kp [4] ?_
    refine aw_ret ?_
    show ∃ v H2, ResV _ _ _ _ _ _ v ∧ Sub H2 _ ∧ _
    first | exact ⟨_, H, resV rfl (.cons rfl .nil), Sub.refl _, ⟨i, congrArg (Value.int .i64) (by omega), idx_found hr hi1 hi2 (hok.1 rfl)⟩, rfl⟩ | exact ⟨_, H, resV rfl (.cons rfl .nil), Sub.refl _, ⟨i - 1, congrArg (Value.int .i64) (by omega), idx_ahead hr h0 hi1 hi2 hi3 (fun x hx hz => by have := hok.2 ⟨x, hx, hz⟩; cases this)⟩, rfl⟩
set_option maxRecDepth 100000 in
set_option maxHeartbeats 400000 in
theorem pfree_s (p : Nat) (a : Option Addr) (cap : Nat) (S : List PStep) (ver : Int) (H : SHeap) (hc : Cells W0 H p 0 [.slice a S.length cap, .int .i64 ver]) (hs : SlV W0 H 2 PStep.cells a cap S) (t : Int) (hr : Ris S) (h0 : 0 < S.length) (hl : S.length ≤ 1000000) : AC Try.prog W0 34 [.pointer (some ⟨p, 0, none⟩), .int .i64 t] H (fun v H' => v = .int .i64 (frS S t) ∧ H' = H) := by
  obtain ⟨i0, hi0⟩ := idx_ex (S := S) (t) (fun h => by subst h; simp at h0)
  refine ac_of Try.func34 rfl rfl rfl ?_
  refine aw_seq_region ?_
  refine sr_as ?_
  refine sr_nil ?_
  refine aw_kp [0, 1, 4] ?_
  refine aw_seq ?_
  refine aw_seq_region ?_
  refine sr_mv ?_
  refine sr_d rfl (wtd_none rfl) rfl (opS_call rfl rfl rfl rfl cl90 (pnone_s p a cap S ver _ (Cells.mono hc Sub.autoR) (hs.mono Sub.autoR) h0)) ?_
  rintro _ H ⟨rfl, rfl⟩
  refine sr_nil ?_
  refine aw_kp [0, 1, 4, 6] ?_
  refine aw_false rfl ?_
  refine aw_skip ?_
  show AW _ _ _ _ _ _ _
  refine aw_seq_dr ⟨_, 11, 17, [[], [0], [0, 1], [0, 1, 2], [], [], [4, 5], [0, 1, 2, 3, 4, 5, 6], [0, 1, 2, 3, 4, 5, 6, 7], [0, 1, 2, 3, 4, 5, 6, 7, 8], [0, 1, 2, 3, 4, 5, 6, 7, 8, 9]], [.light, .light, .light, .mem, .light, .light, .call, .light, .light, .mem, .light]⟩ (by kernel_rfl) rfl rfl mix ?_
  refine dr_l (x_move rfl) ?_
  refine dr_l (x_nilCheck rfl) ?_
  refine dr_l (x_fieldAddr fd83_0 rfl) ?_
  refine dr_mem0 rfl rfl (wtd_none rfl) (x_load ag43 rfl (cells_get (Cells.mono hc Sub.autoR) 0 rfl)) ?_
  refine dr_l (x_move rfl) ?_
  refine dr_l (x_move rfl) ?_
  refine dr_callq0 rfl rfl (wtd_none rfl) (opS_F rfl rfl rfl rfl cl91 ((pidx_s p a cap S ver _ (Cells.mono hc Sub.autoR) (hs.mono Sub.autoR) t hr h0 hl))) (⟨_, i0, rfl, hi0⟩) ?_
  rintro _ ⟨i, rfl, hi⟩
  have hiX := hi
  obtain ⟨⟨s, hs1, hs2⟩, hs3⟩ := hi
  have hil := get_lt hs1
  obtain ⟨bx, ox, hax, hcx⟩ := hs.at_ _ _ hs1
  refine dr_l (x_indexAddrN (i) Try.underlying43 sz76 rfl hax rfl (by omega) (by omega)) ?_
  refine dr_l (x_fieldAddr fd76_1 rfl) ?_
  refine dr_mem0 rfl rfl (wtd_none rfl) (x_load ag3 rfl (cells_get (Cells.mono hcx Sub.autoR) 1 rfl)) ?_
  refine dr_l (x_assign rfl) ?_
  refine dr_nil0 ?_
  refine aw_kp [4] ?_
  refine aw_ret ?_
  show ∃ v H2, ResV _ _ _ _ _ _ v ∧ Sub H2 _ ∧ _
  exact ⟨_, H, resV rfl (.cons rfl .nil), (by repeat (first | exact Sub.refl _ | apply Sub.drop)), ⟨congrArg (Value.int .i64) (frS_at hr hiX hs1).symm, rfl⟩⟩
set_option maxRecDepth 100000 in
set_option maxHeartbeats 400000 in
theorem pfreeN_s (t : Int) (H : SHeap) : AC Try.prog W0 34 [.pointer none, .int .i64 t] H (fun v H' => v = .int .i64 0 ∧ H' = H) := by
  refine ac_of Try.func34 rfl rfl rfl ?_
  refine aw_seq_region ?_
  refine sr_as ?_
  refine sr_nil ?_
  refine aw_kp [0, 1, 4] ?_
  refine aw_seq ?_
  refine aw_seq_region ?_
  refine sr_mv ?_
  refine sr_d rfl (wtd_none rfl) rfl (opS_call rfl rfl rfl rfl cl90 (pnoneN_s _)) ?_
  rintro _ H ⟨rfl, rfl⟩
  refine sr_nil ?_
  refine aw_kp [0, 1, 4, 6] ?_
  refine aw_true rfl ?_
  refine aw_seq_region ?_
  refine sr_as ?_
  refine sr_nil ?_
  refine aw_kp [0, 1, 4] ?_
  refine aw_ret ?_
  show ∃ v H2, ResV _ _ _ _ _ _ v ∧ Sub H2 _ ∧ _
  exact ⟨_, H, resV rfl (.cons rfl .nil), (by repeat (first | exact Sub.refl _ | apply Sub.drop)), ⟨rfl, rfl⟩⟩
set_option maxRecDepth 100000 in
set_option maxHeartbeats 1000000 in
theorem pleast_s (p : Nat) (a : Option Addr) (cap : Nat) (S : List PStep) (ver : Int) (H : SHeap) (hc : Cells W0 H p 0 [.slice a S.length cap, .int .i64 ver]) (hs : SlV W0 H 2 PStep.cells a cap S) (now : Int) (f : Int → Int) (hrep : Rep S now f) (hl : S.length ≤ 1000000) (from_ to_ : Int) : AC Try.prog W0 36 [.pointer (some ⟨p, 0, none⟩), .int .i64 from_, .int .i64 to_] H (fun v H' => (∃ m, v = .int .i64 m ∧ (max from_ now < to_ → MinOn f (max from_ now) to_ m) ∧ (to_ ≤ max from_ now → m = 64)) ∧ H' = H) := by
  obtain ⟨s0, hs0, hn0⟩ := hrep.head
  have h0 := get_lt hs0
  have hr := hrep.ris
  have hle := hs.le
  have hcb := hs.capb
  obtain ⟨i0, hi0⟩ := idx_ex (S := S) (max from_ now) (fun h => by subst h; simp at h0)
  refine ac_of Try.func36 rfl rfl rfl ?_
  refine aw_seq_region ?_
  refine sr_as ?_
  refine sr_nil ?_
  refine aw_kp [0, 1, 2, 6] ?_
  refine aw_seq ?_
  refine aw_seq_region ?_
  refine sr_mv ?_
  refine sr_d rfl (wtd_none rfl) rfl (opS_call rfl rfl rfl rfl cl90 (pnone_s p a cap S ver _ (Cells.mono hc Sub.autoR) (hs.mono Sub.autoR) h0)) ?_
  rintro _ H ⟨rfl, rfl⟩
  refine sr_nil ?_
  refine aw_kp [0, 1, 2, 6, 11] ?_
  refine aw_false rfl ?_
  refine aw_skip ?_
  show AW _ _ _ _ _ _ _
  refine aw_seq_region ?_
  refine sr_mv ?_
  refine sr_mv ?_
  refine sr_d rfl (wtd_none rfl) rfl (opS_call rfl rfl rfl rfl cl28 (pnow_s p a cap S ver _ (Cells.mono hc Sub.autoR) (hs.mono Sub.autoR) s0 hs0)) ?_
  rintro _ H ⟨rfl, rfl⟩
  rw [hn0]
  refine sr_rd (x_max rfl rfl) ?_
  refine sr_as ?_
  refine sr_nil ?_
  refine aw_kp [0, 1, 2, 6] ?_
  refine aw_seq_region ?_
  refine sr_as ?_
  refine sr_nil ?_
  refine aw_kp [0, 1, 2, 6, 7] ?_
  refine aw_seq ?_
  refine aw_seq_region ?_
  refine sr_mv ?_
  refine sr_mv ?_
  refine sr_c (x_ge rfl rfl) (fun h1 => ?_) (fun h1 => ?_)
  · refine sr_nil ?_
    refine aw_kp [0, 1, 2, 6, 7, 18] ?_
    refine aw_true rfl ?_
    refine aw_seq_region ?_
    refine sr_mv ?_
    refine sr_as ?_
    refine sr_nil ?_
    refine aw_kp [0, 1, 2, 6, 7] ?_
    refine aw_ret ?_
    show ∃ v H2, ResV _ _ _ _ _ _ v ∧ Sub H2 _ ∧ _
    exact ⟨_, H, resV rfl (.cons rfl .nil), Sub.autoR, ⟨64, rfl, (fun h1 => by omega), fun _ => rfl⟩, rfl⟩
  · refine sr_nil ?_
    refine aw_kp [0, 1, 2, 6, 7, 18] ?_
    refine aw_false rfl ?_
    refine aw_skip ?_
    show AW _ _ _ _ _ _ _
    refine aw_seq ?_
    refine aw_seq_dr ⟨_, 10, 43, [[], [0], [0, 1], [0, 1, 2], [], [], [4, 5], [0, 1, 2, 3, 4, 5, 6], [0, 1, 2, 3, 4, 5, 6, 7], []], [.light, .light, .light, .mem, .light, .light, .call, .light, .light, .light]⟩ (by kernel_rfl) rfl rfl mix ?_
    refine dr_l (x_move rfl) ?_
    refine dr_l (x_nilCheck rfl) ?_
    refine dr_l (x_fieldAddr fd83_0 rfl) ?_
    refine dr_mem0 rfl rfl (wtd_none rfl) (x_load ag43 rfl (cells_get (Cells.mono hc Sub.autoR) 0 rfl)) ?_
    refine dr_l (x_move rfl) ?_
    refine dr_l (x_move rfl) ?_
    refine dr_callq0 rfl rfl (wtd_none rfl) (opS_F rfl rfl rfl rfl cl91 ((pidx_s p a cap S ver _ (Cells.mono hc Sub.autoR) (hs.mono Sub.autoR) (max from_ now) hr h0 hl))) (⟨_, i0, rfl, hi0⟩) ?_
    rintro _ ⟨i, rfl, hi⟩
    have hiX := hi
    obtain ⟨⟨s, hs1, hs2⟩, hs3⟩ := hi
    have hil := get_lt hs1
    obtain ⟨bx, ox, hax, hcx⟩ := hs.at_ _ _ hs1
    subst hax
    refine dr_l (x_sliceLoK i Try.underlying43 sz76 rfl rfl rfl (by omega) (by omega) (by omega)) ?_
    refine dr_l (x_lenSlice Try.underlying43 rfl) ?_
    refine dr_l (x_move rfl) ?_
    refine dr_nil0 ?_
    refine aw_kp [2, 6, 7, 27, 28, 29] ?_
    refine aw_block ?_
    refine aw_loop (ι := ScG) (fun s => i + s.j ≤ S.length ∧ MinI S i (i + s.j) s.n ∧ HitI S i (i + s.j) to_) (fun s => [(2, .int .i64 to_), (7, .int .i64 s.n), (27, .slice (some ⟨bx, ox + i * 2, none⟩) (S.length - i) (cap - i)), (28, .int .i64 ((S.length - i : Nat) : Int)), (29, .int .i64 s.j)]) (fun _ => H) (fun s => S.length - s.j) ⟨0, 64⟩ (⟨by dsimp only; omega, MinI.start, HitI.start⟩) KeepF.auto Sub.autoP ?_
    intro s9 hs9
    obtain ⟨j, n⟩ := s9
    dsimp only at hs9 ⊢
    obtain ⟨hj, hm, hh⟩ := hs9
    refine aw_seq_region ?_
    refine sr_c (x_lt rfl rfl) (fun h2 => ?_) (fun h2 => ?_)
    · refine sr_nil ?_
      refine aw_kp [2, 7, 27, 28, 29, 30] ?_
      refine aw_seq ?_
      refine aw_true rfl ?_
      refine aw_skip ?_
      show AW _ _ _ _ _ _ _
      refine aw_seq ?_
      refine aw_block ?_
      refine aw_seq_region ?_
      obtain ⟨x, hx⟩ := get_ex (show i + j < S.length by omega)
      obtain ⟨b9, o9, h9, hcj⟩ := hs.at_ (i + j) _ hx
      cases h9
      rw [Nat.add_mul, ← Nat.add_assoc] at hcj
      refine sr_rd (x_indexAddrN (j) Try.underlying43 sz76 rfl rfl rfl (by omega) (by omega)) ?_
      refine sr_rd (x_loadN ag76 sz76 rfl (Cells.mono hcj Sub.autoR) rfl) ?_
      refine sr_new rfl (wtd_none rfl) rfl (x_alloc zr76 rfl) ?_
      intro r9_2 hr9_2 gr9_2
      refine sr_x0 rfl (wtd_none rfl) (x_store sz76 rfl rfl rfl rfl rfl Repl.auto Spl.auto) ?_
      refine sr_nil ?_
      refine aw_kp [2, 7, 9, 27, 28, 29, 30, 31, 32] ?_
      refine aw_seq ?_
      refine aw_seq_region ?_
      refine sr_rd (x_fieldAddr fd76_0 rfl) ?_
      refine sr_rd (x_load ag2 rfl (cells_ext mauto Ext.auto)) ?_
      refine sr_mv ?_
      refine sr_c (x_ge rfl rfl) (fun h3 => ?_) (fun h3 => ?_)
      · refine sr_nil ?_
        refine aw_kp [2, 7, 9, 27, 28, 29, 30, 31, 32, 33, 34, 35, 36] ?_
        refine aw_true rfl ?_
        refine aw_exit ?_
        show AW _ _ _ _ _ _ _
        refine aw_seq_region ?_
        refine sr_mv ?_
        refine sr_as ?_
        refine sr_nil ?_
        refine aw_kp [6] ?_
        refine aw_ret ?_
        show ∃ v H2, ResV _ _ _ _ _ _ v ∧ Sub H2 _ ∧ _
        first | exact ⟨_, H, resV rfl (.cons rfl .nil), Sub.autoR, ⟨n, rfl, (fun h1 => MinI.done hrep (by omega) h1 hiX hh (by first | exact .inl (by omega) | exact .inr ⟨x, hx, by omega⟩) hm), (fun h1 => by omega)⟩, rfl⟩
      · refine sr_nil ?_
        refine aw_kp [2, 7, 9, 27, 28, 29, 30, 31, 32, 33, 34, 35, 36] ?_
        refine aw_false rfl ?_
        refine aw_skip ?_
        show AW _ _ _ _ _ _ _
        refine aw_region ?_
        refine sr_mv ?_
        refine sr_rd (x_fieldAddr fd76_1 rfl) ?_
        refine sr_rd (x_load ag3 rfl (cells_ext mauto Ext.auto)) ?_
        refine sr_rd (x_min rfl rfl) ?_
        refine sr_as ?_
        refine sr_nil ?_
        show AW _ _ _ _ _ _ _
        refine aw_region ?_
        refine sr_rd (x_add' rfl rfl (i64w (by omega) (by omega))) ?_
        refine sr_mv ?_
        refine sr_nil ?_
        show ∃ s', _ ∧ _ ∧ _ ∧ _
        exact ⟨⟨j + 1, _⟩, ⟨by dsimp only; omega, hm.step (by omega) hx, hh.step hx (by omega)⟩, by dsimp only; omega, KeepF.auto, Sub.autoR⟩
    · refine sr_nil ?_
      refine aw_kp [2, 7, 27, 28, 29, 30] ?_
      refine aw_seq ?_
      refine aw_false rfl ?_
      refine aw_exit ?_
      show AW _ _ _ _ _ _ _
      refine aw_seq_region ?_
      refine sr_mv ?_
      refine sr_as ?_
      refine sr_nil ?_
      refine aw_kp [6] ?_
      refine aw_ret ?_
      show ∃ v H2, ResV _ _ _ _ _ _ v ∧ Sub H2 _ ∧ _
      first | exact ⟨_, H, resV rfl (.cons rfl .nil), Sub.autoR, ⟨n, rfl, (fun h1 => MinI.done hrep (by omega) h1 hiX hh (by first | exact .inl (by omega) | exact .inr ⟨x, hx, by omega⟩) hm), (fun h1 => by omega)⟩, rfl⟩
set_option maxRecDepth 100000 in
set_option maxHeartbeats 400000 in
theorem pleastN_s (from_ to_ : Int) (H : SHeap) : AC Try.prog W0 36 [.pointer none, .int .i64 from_, .int .i64 to_] H (fun v H' => v = .int .i64 0 ∧ H' = H) := by
  refine ac_of Try.func36 rfl rfl rfl ?_
  refine aw_seq_region ?_
  refine sr_as ?_
  refine sr_nil ?_
  refine aw_kp [0, 1, 2, 6] ?_
  refine aw_seq ?_
  refine aw_seq_region ?_
  refine sr_mv ?_
  refine sr_d rfl (wtd_none rfl) rfl (opS_call rfl rfl rfl rfl cl90 (pnoneN_s _)) ?_
  rintro _ H ⟨rfl, rfl⟩
  refine sr_nil ?_
  refine aw_kp [0, 1, 2, 6, 11] ?_
  refine aw_true rfl ?_
  refine aw_seq_region ?_
  refine sr_as ?_
  refine sr_nil ?_
  refine aw_kp [0, 1, 2, 6] ?_
  refine aw_ret ?_
  show ∃ v H2, ResV _ _ _ _ _ _ v ∧ Sub H2 _ ∧ _
  exact ⟨_, H, resV rfl (.cons rfl .nil), (by repeat (first | exact Sub.refl _ | apply Sub.drop)), ⟨rfl, rfl⟩⟩
set_option maxRecDepth 100000 in
set_option maxHeartbeats 1000000 in
theorem pmost_s (p : Nat) (a : Option Addr) (cap : Nat) (S : List PStep) (ver : Int) (H : SHeap) (hc : Cells W0 H p 0 [.slice a S.length cap, .int .i64 ver]) (hs : SlV W0 H 2 PStep.cells a cap S) (now : Int) (f : Int → Int) (hrep : Rep S now f) (hl : S.length ≤ 1000000) (from_ to_ : Int) (hnf : now ≤ from_) : AC Try.prog W0 95 [.pointer (some ⟨p, 0, none⟩), .int .i64 from_, .int .i64 to_] H (fun v H' => (∃ m, v = .int .i64 m ∧ (from_ < to_ → MaxOn f from_ to_ m)) ∧ H' = H) := by
  obtain ⟨s0, hs0, hn0⟩ := hrep.head
  have h0 := get_lt hs0
  have hr := hrep.ris
  have hle := hs.le
  have hcb := hs.capb
  obtain ⟨i0, hi0⟩ := idx_ex (S := S) (from_) (fun h => by subst h; simp at h0)
  refine ac_of Try.func95 rfl rfl rfl ?_
  refine aw_seq_region ?_
  refine sr_as ?_
  refine sr_nil ?_
  refine aw_kp [0, 1, 2, 6] ?_
  refine aw_seq_region ?_
  refine sr_as ?_
  refine sr_nil ?_
  refine aw_kp [0, 1, 2, 6, 7] ?_
  refine aw_seq ?_
  refine aw_seq_dr ⟨_, 10, 33, [[], [0], [0, 1], [0, 1, 2], [], [], [4, 5], [0, 1, 2, 3, 4, 5, 6], [0, 1, 2, 3, 4, 5, 6, 7], []], [.light, .light, .light, .mem, .light, .light, .call, .light, .light, .light]⟩ (by kernel_rfl) rfl rfl mix ?_
  refine dr_l (x_move rfl) ?_
  refine dr_l (x_nilCheck rfl) ?_
  refine dr_l (x_fieldAddr fd83_0 rfl) ?_
  refine dr_mem0 rfl rfl (wtd_none rfl) (x_load ag43 rfl (cells_get (Cells.mono hc Sub.autoR) 0 rfl)) ?_
  refine dr_l (x_move rfl) ?_
  refine dr_l (x_move rfl) ?_
  refine dr_callq0 rfl rfl (wtd_none rfl) (opS_F rfl rfl rfl rfl cl91 ((pidx_s p a cap S ver _ (Cells.mono hc Sub.autoR) (hs.mono Sub.autoR) from_ hr h0 hl))) (⟨_, i0, rfl, hi0⟩) ?_
  rintro _ ⟨i, rfl, hi⟩
  have hiX := hi
  obtain ⟨⟨s, hs1, hs2⟩, hs3⟩ := hi
  have hil := get_lt hs1
  obtain ⟨bx, ox, hax, hcx⟩ := hs.at_ _ _ hs1
  subst hax
  refine dr_l (x_sliceLoK i Try.underlying43 sz76 rfl rfl rfl (by omega) (by omega) (by omega)) ?_
  refine dr_l (x_lenSlice Try.underlying43 rfl) ?_
  refine dr_l (x_move rfl) ?_
  refine dr_nil0 ?_
  refine aw_kp [2, 6, 7, 17, 18, 19] ?_
  refine aw_block ?_
  refine aw_loop (ι := ScG) (fun s => i + s.j ≤ S.length ∧ MaxI S i (i + s.j) s.n ∧ HitI S i (i + s.j) to_) (fun s => [(2, .int .i64 to_), (7, .int .i64 s.n), (17, .slice (some ⟨bx, ox + i * 2, none⟩) (S.length - i) (cap - i)), (18, .int .i64 ((S.length - i : Nat) : Int)), (19, .int .i64 s.j)]) (fun _ => H) (fun s => S.length - s.j) ⟨0, 0⟩ (⟨by dsimp only; omega, MaxI.start, HitI.start⟩) KeepF.auto Sub.autoP ?_
  intro s9 hs9
  obtain ⟨j, n⟩ := s9
  dsimp only at hs9 ⊢
  obtain ⟨hj, hm, hh⟩ := hs9
  refine aw_seq_region ?_
  refine sr_c (x_lt rfl rfl) (fun h1 => ?_) (fun h1 => ?_)
  · refine sr_nil ?_
    refine aw_kp [2, 7, 17, 18, 19, 20] ?_
    refine aw_seq ?_
    refine aw_true rfl ?_
    refine aw_skip ?_
    show AW _ _ _ _ _ _ _
    refine aw_seq ?_
    refine aw_block ?_
    refine aw_seq_region ?_
    obtain ⟨x, hx⟩ := get_ex (show i + j < S.length by omega)
    obtain ⟨b9, o9, h9, hcj⟩ := hs.at_ (i + j) _ hx
    cases h9
    rw [Nat.add_mul, ← Nat.add_assoc] at hcj
    refine sr_rd (x_indexAddrN (j) Try.underlying43 sz76 rfl rfl rfl (by omega) (by omega)) ?_
    refine sr_rd (x_loadN ag76 sz76 rfl (Cells.mono hcj Sub.autoR) rfl) ?_
    refine sr_new rfl (wtd_none rfl) rfl (x_alloc zr76 rfl) ?_
    intro r4_2 hr4_2 gr4_2
    refine sr_x0 rfl (wtd_none rfl) (x_store sz76 rfl rfl rfl rfl rfl Repl.auto Spl.auto) ?_
    refine sr_nil ?_
    refine aw_kp [2, 7, 9, 17, 18, 19, 20, 21, 22] ?_
    refine aw_seq ?_
    refine aw_seq_region ?_
    refine sr_rd (x_fieldAddr fd76_0 rfl) ?_
    refine sr_rd (x_load ag2 rfl (cells_ext mauto Ext.auto)) ?_
    refine sr_mv ?_
    refine sr_c (x_ge rfl rfl) (fun h2 => ?_) (fun h2 => ?_)
    · refine sr_nil ?_
      refine aw_kp [2, 7, 9, 17, 18, 19, 20, 21, 22, 23, 24, 25, 26] ?_
      refine aw_true rfl ?_
      refine aw_exit ?_
      show AW _ _ _ _ _ _ _
      refine aw_seq_region ?_
      refine sr_mv ?_
      refine sr_as ?_
      refine sr_nil ?_
      refine aw_kp [6] ?_
      refine aw_ret ?_
      show ∃ v H2, ResV _ _ _ _ _ _ v ∧ Sub H2 _ ∧ _
      first | exact ⟨_, H, resV rfl (.cons rfl .nil), Sub.autoR, ⟨n, rfl, (fun h1 => MaxI.done hrep (by omega) h1 hiX hh (by first | exact .inl (by omega) | exact .inr ⟨x, hx, by omega⟩) hm)⟩, rfl⟩
    · refine sr_nil ?_
      refine aw_kp [2, 7, 9, 17, 18, 19, 20, 21, 22, 23, 24, 25, 26] ?_
      refine aw_false rfl ?_
      refine aw_skip ?_
      show AW _ _ _ _ _ _ _
      refine aw_region ?_
      refine sr_mv ?_
      refine sr_rd (x_fieldAddr fd76_1 rfl) ?_
      refine sr_rd (x_load ag3 rfl (cells_ext mauto Ext.auto)) ?_
      refine sr_rd (x_max rfl rfl) ?_
      refine sr_as ?_
      refine sr_nil ?_
      show AW _ _ _ _ _ _ _
      refine aw_region ?_
      refine sr_rd (x_add' rfl rfl (i64w (by omega) (by omega))) ?_
      refine sr_mv ?_
      refine sr_nil ?_
      show ∃ s', _ ∧ _ ∧ _ ∧ _
      exact ⟨⟨j + 1, _⟩, ⟨by dsimp only; omega, hm.step (by omega) hx, hh.step hx (by omega)⟩, by dsimp only; omega, KeepF.auto, Sub.autoR⟩
  · refine sr_nil ?_
    refine aw_kp [2, 7, 17, 18, 19, 20] ?_
    refine aw_seq ?_
    refine aw_false rfl ?_
    refine aw_exit ?_
    show AW _ _ _ _ _ _ _
    refine aw_seq_region ?_
    refine sr_mv ?_
    refine sr_as ?_
    refine sr_nil ?_
    refine aw_kp [6] ?_
    refine aw_ret ?_
    show ∃ v H2, ResV _ _ _ _ _ _ v ∧ Sub H2 _ ∧ _
    first | exact ⟨_, H, resV rfl (.cons rfl .nil), Sub.autoR, ⟨n, rfl, (fun h1 => MaxI.done hrep (by omega) h1 hiX hh (by first | exact .inl (by omega) | exact .inr ⟨x, hx, by omega⟩) hm)⟩, rfl⟩
set_option maxRecDepth 100000 in
set_option maxHeartbeats 4000000 in
theorem pear_s (p : Nat) (a : Option Addr) (cap : Nat) (S : List PStep) (ver : Int) (H : SHeap) (hc : Cells W0 H p 0 [.slice a S.length cap, .int .i64 ver]) (hs : SlV W0 H 2 PStep.cells a cap S) (now : Int) (f : Int → Int) (hrep : Rep S now f) (hl : S.length ≤ 1000000) (hnow : 0 ≤ now) (from_ long w : Int) : AC Try.prog W0 24 [.pointer (some ⟨p, 0, none⟩), .int .i64 from_, .int .i64 long, .int .i64 w] H (fun v H' => (∃ t e, v = .tuple #[.int .i64 t, .int .i64 e] ∧ EarC f now from_ long w t e) ∧ H' = H) := by
  obtain ⟨s0, hs0, hn0⟩ := hrep.head
  have h0 := get_lt hs0
  have hr := hrep.ris
  have hle := hs.le
  have hcb := hs.capb
  refine ac_of Try.func24 rfl rfl rfl ?_
  refine aw_seq_region ?_
  refine sr_as ?_
  refine sr_as ?_
  refine sr_nil ?_
  refine aw_kp [0, 1, 2, 3, 8, 9] ?_
  refine aw_seq ?_
  refine aw_block ?_
  refine aw_seq_region ?_
  refine sr_mv ?_
  refine sr_d rfl (wtd_none rfl) rfl (opS_call rfl rfl rfl rfl cl90 (pnone_s p a cap S ver _ (Cells.mono hc Sub.autoR) (hs.mono Sub.autoR) h0)) ?_
  rintro _ H ⟨rfl, rfl⟩
  refine sr_as ?_
  refine sr_nil ?_
  refine aw_kp [0, 1, 2, 3, 8, 9, 13] ?_
  refine aw_false rfl ?_
  refine aw_seq_region ?_
  refine sr_mv ?_
  refine sr_c (x_lt rfl rfl) (fun h1 => ?_) (fun h1 => ?_)
  · refine sr_mv ?_
    refine sr_sk ?_
    refine sr_sk ?_
    refine sr_rd (x_pick_t rfl rfl rfl) ?_
    refine sr_mv ?_
    refine sr_sk ?_
    refine sr_sk ?_
    refine sr_rd (x_pick_t rfl rfl rfl) ?_
    refine sr_mv ?_
    refine sr_sk ?_
    refine sr_sk ?_
    refine sr_rd (x_pick_t rfl rfl rfl) ?_
    refine sr_as ?_
    refine sr_nil ?_
    refine aw_kp [0, 1, 2, 3, 8, 9, 16] ?_
    refine aw_true rfl ?_
    refine aw_seq_region ?_
    refine sr_as ?_
    refine sr_as ?_
    refine sr_nil ?_
    refine aw_kp [0, 1, 2, 3, 8, 9] ?_
    refine aw_ret ?_
    show ∃ v H2, ResV _ _ _ _ _ _ v ∧ Sub H2 _ ∧ _
    first | exact ⟨_, H, resV rfl (.cons rfl (.cons rfl .nil)), Sub.autoR, ⟨_, _, rfl, .arg (by omega)⟩, rfl⟩ | exact ⟨_, H, resV rfl (.cons rfl (.cons rfl .nil)), Sub.autoR, ⟨_, _, rfl, .none (by omega) (hE.never hx (by omega) (by omega) (by omega) (by omega))⟩, rfl⟩ | exact ⟨_, H, resV rfl (.cons rfl (.cons rfl .nil)), Sub.autoR, ⟨_, _, rfl, .none (by omega) (hE.late (by omega))⟩, rfl⟩ | exact ⟨_, H, resV rfl (.cons rfl (.cons rfl .nil)), Sub.autoR, ⟨_, _, rfl, .some (by omega) (hE.some_ (by first | exact .inr ⟨x, hx, by omega⟩ | exact .inl (by omega)) (by omega))⟩, rfl⟩
  · refine sr_mv ?_
    refine sr_ry (x_move rfl) ?_
    refine sr_cy (x_gt rfl rfl) (fun h2 => ?_) (fun h2 => ?_)
    · refine sr_rd (x_pick_f rfl rfl rfl) ?_
      refine sr_mv ?_
      refine sr_sk ?_
      refine sr_sk ?_
      refine sr_rd (x_pick_t rfl rfl rfl) ?_
      refine sr_mv ?_
      refine sr_sk ?_
      refine sr_sk ?_
      refine sr_rd (x_pick_t rfl rfl rfl) ?_
      refine sr_as ?_
      refine sr_nil ?_
      refine aw_kp [0, 1, 2, 3, 8, 9, 16] ?_
      refine aw_true rfl ?_
      refine aw_seq_region ?_
      refine sr_as ?_
      refine sr_as ?_
      refine sr_nil ?_
      refine aw_kp [0, 1, 2, 3, 8, 9] ?_
      refine aw_ret ?_
      show ∃ v H2, ResV _ _ _ _ _ _ v ∧ Sub H2 _ ∧ _
      first | exact ⟨_, H, resV rfl (.cons rfl (.cons rfl .nil)), Sub.autoR, ⟨_, _, rfl, .arg (by omega)⟩, rfl⟩ | exact ⟨_, H, resV rfl (.cons rfl (.cons rfl .nil)), Sub.autoR, ⟨_, _, rfl, .none (by omega) (hE.never hx (by omega) (by omega) (by omega) (by omega))⟩, rfl⟩ | exact ⟨_, H, resV rfl (.cons rfl (.cons rfl .nil)), Sub.autoR, ⟨_, _, rfl, .none (by omega) (hE.late (by omega))⟩, rfl⟩ | exact ⟨_, H, resV rfl (.cons rfl (.cons rfl .nil)), Sub.autoR, ⟨_, _, rfl, .some (by omega) (hE.some_ (by first | exact .inr ⟨x, hx, by omega⟩ | exact .inl (by omega)) (by omega))⟩, rfl⟩
    · refine sr_rd (x_pick_f rfl rfl rfl) ?_
      refine sr_mv ?_
      refine sr_ry (x_move rfl) ?_
      refine sr_cy (x_lt rfl rfl) (fun h3 => ?_) (fun h3 => ?_)
      · refine sr_rd (x_pick_f rfl rfl rfl) ?_
        refine sr_mv ?_
        refine sr_sk ?_
        refine sr_sk ?_
        refine sr_rd (x_pick_t rfl rfl rfl) ?_
        refine sr_as ?_
        refine sr_nil ?_
        refine aw_kp [0, 1, 2, 3, 8, 9, 16] ?_
        refine aw_true rfl ?_
        refine aw_seq_region ?_
        refine sr_as ?_
        refine sr_as ?_
        refine sr_nil ?_
        refine aw_kp [0, 1, 2, 3, 8, 9] ?_
        refine aw_ret ?_
        show ∃ v H2, ResV _ _ _ _ _ _ v ∧ Sub H2 _ ∧ _
        first | exact ⟨_, H, resV rfl (.cons rfl (.cons rfl .nil)), Sub.autoR, ⟨_, _, rfl, .arg (by omega)⟩, rfl⟩ | exact ⟨_, H, resV rfl (.cons rfl (.cons rfl .nil)), Sub.autoR, ⟨_, _, rfl, .none (by omega) (hE.never hx (by omega) (by omega) (by omega) (by omega))⟩, rfl⟩ | exact ⟨_, H, resV rfl (.cons rfl (.cons rfl .nil)), Sub.autoR, ⟨_, _, rfl, .none (by omega) (hE.late (by omega))⟩, rfl⟩ | exact ⟨_, H, resV rfl (.cons rfl (.cons rfl .nil)), Sub.autoR, ⟨_, _, rfl, .some (by omega) (hE.some_ (by first | exact .inr ⟨x, hx, by omega⟩ | exact .inl (by omega)) (by omega))⟩, rfl⟩
      · refine sr_rd (x_pick_f rfl rfl rfl) ?_
        refine sr_mv ?_
        refine sr_ry (x_move rfl) ?_
        refine sr_cy (x_gt rfl rfl) (fun h4 => ?_) (fun h4 => ?_)
        · refine sr_rd (x_pick_f rfl rfl rfl) ?_
          refine sr_as ?_
          refine sr_nil ?_
          refine aw_kp [0, 1, 2, 3, 8, 9, 16] ?_
          refine aw_true rfl ?_
          refine aw_seq_region ?_
          refine sr_as ?_
          refine sr_as ?_
          refine sr_nil ?_
          refine aw_kp [0, 1, 2, 3, 8, 9] ?_
          refine aw_ret ?_
          show ∃ v H2, ResV _ _ _ _ _ _ v ∧ Sub H2 _ ∧ _
          first | exact ⟨_, H, resV rfl (.cons rfl (.cons rfl .nil)), Sub.autoR, ⟨_, _, rfl, .arg (by omega)⟩, rfl⟩ | exact ⟨_, H, resV rfl (.cons rfl (.cons rfl .nil)), Sub.autoR, ⟨_, _, rfl, .none (by omega) (hE.never hx (by omega) (by omega) (by omega) (by omega))⟩, rfl⟩ | exact ⟨_, H, resV rfl (.cons rfl (.cons rfl .nil)), Sub.autoR, ⟨_, _, rfl, .none (by omega) (hE.late (by omega))⟩, rfl⟩ | exact ⟨_, H, resV rfl (.cons rfl (.cons rfl .nil)), Sub.autoR, ⟨_, _, rfl, .some (by omega) (hE.some_ (by first | exact .inr ⟨x, hx, by omega⟩ | exact .inl (by omega)) (by omega))⟩, rfl⟩
        · refine sr_rd (x_pick_f rfl rfl rfl) ?_
          refine sr_as ?_
          refine sr_nil ?_
          refine aw_kp [0, 1, 2, 3, 8, 9, 16] ?_
          refine aw_false rfl ?_
          refine aw_skip ?_
          show AW _ _ _ _ _ _ _
          refine aw_seq_region ?_
          refine sr_mv ?_
          refine sr_mv ?_
          refine sr_d rfl (wtd_none rfl) rfl (opS_call rfl rfl rfl rfl cl28 (pnow_s p a cap S ver _ (Cells.mono hc Sub.autoR) (hs.mono Sub.autoR) s0 hs0)) ?_
          rintro _ H ⟨rfl, rfl⟩
          rw [hn0]
          refine sr_rd (x_max rfl rfl) ?_
          refine sr_as ?_
          refine sr_nil ?_
          refine aw_kp [0, 2, 3, 8, 9, 10] ?_
          refine aw_seq ?_
          refine aw_seq_region ?_
          refine sr_mv ?_
          refine sr_mv ?_
          refine sr_d rfl (wtd_none rfl) rfl (opS_call rfl rfl rfl rfl cl91 (pidx_s p a cap S ver _ (Cells.mono hc Sub.autoR) (hs.mono Sub.autoR) (max from_ now) hr h0 hl)) ?_
          rintro _ H ⟨⟨i, rfl, hi⟩, rfl⟩
          have hiX := hi
          obtain ⟨⟨s, hs1, hs2⟩, hs3⟩ := hi
          have hil := get_lt hs1
          refine sr_as ?_
          refine sr_nil ?_
          refine aw_kp [0, 2, 3, 8, 9, 10, 11] ?_
          refine aw_block ?_
          refine aw_loop (ι := EaG) (fun s => EarI S f (max from_ now) long w s.i s.t ∧ ∀ s', S[s.i + 1]? = some s' → s.t < s'.at_) (fun s => [(0, .pointer (some ⟨p, 0, none⟩)), (2, .int .i64 long), (3, .int .i64 w), (8, .int .i64 0), (9, .int .i64 0), (10, .int .i64 s.t), (11, .int .i64 s.i)]) (fun _ => H) (fun s => S.length - s.i) ⟨i, max from_ now⟩ (⟨EarI.start hrep (by omega) hiX, hs3⟩) KeepF.auto Sub.autoP ?_
          intro s9 hs9
          obtain ⟨i, t⟩ := s9
          dsimp only at hs9 ⊢
          obtain ⟨hE, hlt⟩ := hs9
          have hE1 := hE.1
          have hE2 := hE.2.1
          refine aw_seq ?_
          refine aw_seq_region ?_
          refine sr_mv ?_
          refine sr_mv ?_
          refine sr_rd (x_nilCheck rfl) ?_
          refine sr_rd (x_fieldAddr fd83_0 rfl) ?_
          refine sr_rd (x_load ag43 rfl (cells_get (Cells.mono hc Sub.autoR) 0 rfl)) ?_
          refine sr_rd (x_lenSlice Try.underlying43 rfl) ?_
          refine sr_c (x_lt rfl rfl) (fun h5 => ?_) (fun h5 => ?_)
          · refine sr_mv ?_
            refine sr_ry (x_move rfl) ?_
            refine sr_cy (x_le rfl rfl) (fun h6 => ?_) (fun h6 => ?_)
            · refine sr_rd (x_pick_t rfl rfl rfl) ?_
              refine sr_nil ?_
              refine aw_kp [0, 2, 3, 8, 9, 10, 11, 38, 39, 40, 41, 42, 43, 44, 45, 46, 47, 48] ?_
              refine aw_true rfl ?_
              refine aw_skip ?_
              show AW _ _ _ _ _ _ _
              refine aw_seq ?_
              refine aw_block ?_
              refine aw_seq_region ?_
              obtain ⟨x, hx⟩ := get_ex (show i < S.length by omega)
              obtain ⟨bx, ox, hax, hcx⟩ := hs.at_ _ _ hx
              refine sr_mv ?_
              refine sr_rd (x_nilCheck rfl) ?_
              refine sr_rd (x_fieldAddr fd83_0 rfl) ?_
              refine sr_rd (x_load ag43 rfl (cells_get (Cells.mono hc Sub.autoR) 0 rfl)) ?_
              refine sr_mv ?_
              refine sr_rd (x_indexAddrN (i) Try.underlying43 sz76 rfl hax rfl (by omega) (by omega)) ?_
              refine sr_rd (x_loadN ag76 sz76 rfl (Cells.mono hcx Sub.autoR) rfl) ?_
              refine sr_new rfl (wtd_none rfl) rfl (x_alloc zr76 rfl) ?_
              intro r9_7 hr9_7 gr9_7
              refine sr_x0 rfl (wtd_none rfl) (x_store sz76 rfl rfl rfl rfl rfl Repl.auto Spl.auto) ?_
              refine sr_nil ?_
              refine aw_kp [0, 2, 3, 8, 9, 10, 11, 12, 38, 39, 40, 41, 42, 43, 44, 45, 46, 47, 48, 51, 52, 53, 54, 55, 56, 57] ?_
              refine aw_seq ?_
              refine aw_seq_region ?_
              refine sr_rd (x_fieldAddr fd76_0 rfl) ?_
              refine sr_rd (x_load ag2 rfl (cells_ext mauto Ext.auto)) ?_
              refine sr_mv ?_
              refine sr_mv ?_
              refine sr_rd (x_add' rfl rfl (i64w (by omega) (by omega))) ?_
              refine sr_c (x_ge rfl rfl) (fun h7 => ?_) (fun h7 => ?_)
              · refine sr_nil ?_
                refine aw_kp [0, 2, 3, 8, 9, 10, 11, 12, 38, 39, 40, 41, 42, 43, 44, 45, 46, 47, 48, 51, 52, 53, 54, 55, 56, 57, 58, 59, 60, 61, 62, 63] ?_
                refine aw_true rfl ?_
                refine aw_exit ?_
                show AW _ _ _ _ _ _ _
                refine aw_seq ?_
                refine aw_seq_region ?_
                refine sr_mv ?_
                refine sr_c (x_gt rfl rfl) (fun h8 => ?_) (fun h8 => ?_)
                · refine sr_nil ?_
                  refine aw_kp [8, 9, 10, 86] ?_
                  refine aw_true rfl ?_
                  refine aw_seq_region ?_
                  refine sr_as ?_
                  refine sr_as ?_
                  refine sr_nil ?_
                  refine aw_kp [8, 9, 10] ?_
                  refine aw_ret ?_
                  show ∃ v H2, ResV _ _ _ _ _ _ v ∧ Sub H2 _ ∧ _
                  first | exact ⟨_, H, resV rfl (.cons rfl (.cons rfl .nil)), Sub.autoR, ⟨_, _, rfl, .arg (by omega)⟩, rfl⟩ | exact ⟨_, H, resV rfl (.cons rfl (.cons rfl .nil)), Sub.autoR, ⟨_, _, rfl, .none (by omega) (hE.never hx (by omega) (by omega) (by omega) (by omega))⟩, rfl⟩ | exact ⟨_, H, resV rfl (.cons rfl (.cons rfl .nil)), Sub.autoR, ⟨_, _, rfl, .none (by omega) (hE.late (by omega))⟩, rfl⟩ | exact ⟨_, H, resV rfl (.cons rfl (.cons rfl .nil)), Sub.autoR, ⟨_, _, rfl, .some (by omega) (hE.some_ (by first | exact .inr ⟨x, hx, by omega⟩ | exact .inl (by omega)) (by omega))⟩, rfl⟩
                · refine sr_nil ?_
                  refine aw_kp [8, 9, 10, 86] ?_
                  refine aw_false rfl ?_
                  refine aw_skip ?_
                  show AW _ _ _ _ _ _ _
                  refine aw_seq_region ?_
                  refine sr_mv ?_
                  refine sr_as ?_
                  refine sr_as ?_
                  refine sr_nil ?_
                  refine aw_kp [8, 9] ?_
                  refine aw_ret ?_
                  show ∃ v H2, ResV _ _ _ _ _ _ v ∧ Sub H2 _ ∧ _
                  first | exact ⟨_, H, resV rfl (.cons rfl (.cons rfl .nil)), Sub.autoR, ⟨_, _, rfl, .arg (by omega)⟩, rfl⟩ | exact ⟨_, H, resV rfl (.cons rfl (.cons rfl .nil)), Sub.autoR, ⟨_, _, rfl, .none (by omega) (hE.never hx (by omega) (by omega) (by omega) (by omega))⟩, rfl⟩ | exact ⟨_, H, resV rfl (.cons rfl (.cons rfl .nil)), Sub.autoR, ⟨_, _, rfl, .none (by omega) (hE.late (by omega))⟩, rfl⟩ | exact ⟨_, H, resV rfl (.cons rfl (.cons rfl .nil)), Sub.autoR, ⟨_, _, rfl, .some (by omega) (hE.some_ (by first | exact .inr ⟨x, hx, by omega⟩ | exact .inl (by omega)) (by omega))⟩, rfl⟩
              · refine sr_nil ?_
                refine aw_kp [0, 2, 3, 8, 9, 10, 11, 12, 38, 39, 40, 41, 42, 43, 44, 45, 46, 47, 48, 51, 52, 53, 54, 55, 56, 57, 58, 59, 60, 61, 62, 63] ?_
                refine aw_false rfl ?_
                refine aw_skip ?_
                show AW _ _ _ _ _ _ _
                refine aw_seq_region ?_
                refine sr_rd (x_fieldAddr fd76_1 rfl) ?_
                refine sr_rd (x_load ag3 rfl (cells_ext mauto Ext.auto)) ?_
                refine sr_mv ?_
                refine sr_c (x_lt rfl rfl) (fun h9 => ?_) (fun h9 => ?_)
                · refine sr_nil ?_
                  refine aw_kp [0, 2, 3, 8, 9, 10, 11, 12, 38, 39, 40, 41, 42, 43, 44, 45, 46, 47, 48, 51, 52, 53, 54, 55, 56, 57, 58, 59, 60, 61, 62, 63, 64, 65, 66, 67] ?_
                  refine aw_true rfl ?_
                  refine aw_seq ?_
                  refine aw_seq_region ?_
                  refine sr_mv ?_
                  refine sr_rd (x_add' rfl rfl (i64w (by omega) (by omega))) ?_
                  refine sr_mv ?_
                  refine sr_rd (x_nilCheck rfl) ?_
                  refine sr_rd (x_fieldAddr fd83_0 rfl) ?_
                  refine sr_rd (x_load ag43 rfl (cells_get (Cells.mono hc Sub.autoR) 0 rfl)) ?_
                  refine sr_rd (x_lenSlice Try.underlying43 rfl) ?_
                  refine sr_c (x_eq rfl rfl) (fun h10 => ?_) (fun h10 => ?_)
                  · refine sr_nil ?_
                    refine aw_kp [0, 2, 3, 8, 9, 10, 11, 12, 38, 39, 40, 41, 42, 43, 44, 45, 46, 47, 48, 51, 52, 53, 54, 55, 56, 57, 58, 59, 60, 61, 62, 63, 64, 65, 66, 67, 68, 69, 70, 71, 72, 73, 74, 75] ?_
                    refine aw_true rfl ?_
                    refine aw_seq_region ?_
                    refine sr_as ?_
                    refine sr_as ?_
                    refine sr_nil ?_
                    refine aw_kp [0, 2, 3, 8, 9, 10, 11, 12, 38, 39, 40, 41, 42, 43, 44, 45, 46, 47, 48, 51, 52, 53, 54, 55, 56, 57, 58, 59, 60, 61, 62, 63, 64, 65, 66, 67, 68, 69, 70, 71, 72, 73, 74, 75] ?_
                    refine aw_ret ?_
                    show ∃ v H2, ResV _ _ _ _ _ _ v ∧ Sub H2 _ ∧ _
                    first | exact ⟨_, H, resV rfl (.cons rfl (.cons rfl .nil)), Sub.autoR, ⟨_, _, rfl, .arg (by omega)⟩, rfl⟩ | exact ⟨_, H, resV rfl (.cons rfl (.cons rfl .nil)), Sub.autoR, ⟨_, _, rfl, .none (by omega) (hE.never hx (by omega) (by omega) (by omega) (by omega))⟩, rfl⟩ | exact ⟨_, H, resV rfl (.cons rfl (.cons rfl .nil)), Sub.autoR, ⟨_, _, rfl, .none (by omega) (hE.late (by omega))⟩, rfl⟩ | exact ⟨_, H, resV rfl (.cons rfl (.cons rfl .nil)), Sub.autoR, ⟨_, _, rfl, .some (by omega) (hE.some_ (by first | exact .inr ⟨x, hx, by omega⟩ | exact .inl (by omega)) (by omega))⟩, rfl⟩
                  · refine sr_nil ?_
                    refine aw_kp [0, 2, 3, 8, 9, 10, 11, 12, 38, 39, 40, 41, 42, 43, 44, 45, 46, 47, 48, 51, 52, 53, 54, 55, 56, 57, 58, 59, 60, 61, 62, 63, 64, 65, 66, 67, 68, 69, 70, 71, 72, 73, 74, 75] ?_
                    refine aw_false rfl ?_
                    refine aw_skip ?_
                    show AW _ _ _ _ _ _ _
                    refine aw_region ?_
                    obtain ⟨y, hy⟩ := get_ex (show i + 1 < S.length by omega)
                    obtain ⟨by_, oy, hay, hcy⟩ := hs.at_ _ _ hy
                    refine sr_mv ?_
                    refine sr_rd (x_nilCheck rfl) ?_
                    refine sr_rd (x_fieldAddr fd83_0 rfl) ?_
                    refine sr_rd (x_load ag43 rfl (cells_get (Cells.mono hc Sub.autoR) 0 rfl)) ?_
                    refine sr_mv ?_
                    refine sr_rd (x_add' rfl rfl (i64w (by omega) (by omega))) ?_
                    refine sr_rd (x_indexAddrN (i + 1) Try.underlying43 sz76 rfl hay rfl (by omega) (by omega)) ?_
                    refine sr_rd (x_fieldAddr fd76_0 rfl) ?_
                    refine sr_rd (x_load ag2 rfl (cells_get (Cells.mono hcy Sub.autoR) 0 rfl)) ?_
                    refine sr_as ?_
                    refine sr_nil ?_
                    show AW _ _ _ _ _ _ _
                    refine aw_region ?_
                    refine sr_mv ?_
                    refine sr_rd (x_add' rfl rfl (i64w (by omega) (by omega))) ?_
                    refine sr_as ?_
                    refine sr_nil ?_
                    show ∃ s', _ ∧ _ ∧ _ ∧ _
                    first | exact ⟨⟨i + 1, y.at_⟩, ⟨hE.next hrep hx hy (by omega) (by omega) (by omega) (by have := hlt y hy; omega), fun s' hs' => by dsimp only at hs' ⊢; exact hr.lt hy hs' (by omega)⟩, by dsimp only; omega, KeepF.auto, Sub.autoR⟩ | exact ⟨⟨i + 1, t⟩, ⟨hE.skip hrep hx (by omega), fun s' hs' => by dsimp only at hs' ⊢; (have hz1 := get_lt hs'); (obtain ⟨y, hy⟩ := get_ex (show i + 1 < S.length by omega)); (have hz2 := hlt y hy); (have hz3 := hr.lt hy hs' (by omega)); omega⟩, by dsimp only; omega, KeepF.auto, Sub.autoR⟩
                · refine sr_nil ?_
                  refine aw_kp [0, 2, 3, 8, 9, 10, 11, 12, 38, 39, 40, 41, 42, 43, 44, 45, 46, 47, 48, 51, 52, 53, 54, 55, 56, 57, 58, 59, 60, 61, 62, 63, 64, 65, 66, 67] ?_
                  refine aw_false rfl ?_
                  refine aw_skip ?_
                  show AW _ _ _ _ _ _ _
                  refine aw_region ?_
                  refine sr_mv ?_
                  refine sr_rd (x_add' rfl rfl (i64w (by omega) (by omega))) ?_
                  refine sr_as ?_
                  refine sr_nil ?_
                  show ∃ s', _ ∧ _ ∧ _ ∧ _
                  first | exact ⟨⟨i + 1, y.at_⟩, ⟨hE.next hrep hx hy (by omega) (by omega) (by omega) (by have := hlt y hy; omega), fun s' hs' => by dsimp only at hs' ⊢; exact hr.lt hy hs' (by omega)⟩, by dsimp only; omega, KeepF.auto, Sub.autoR⟩ | exact ⟨⟨i + 1, t⟩, ⟨hE.skip hrep hx (by omega), fun s' hs' => by dsimp only at hs' ⊢; (have hz1 := get_lt hs'); (obtain ⟨y, hy⟩ := get_ex (show i + 1 < S.length by omega)); (have hz2 := hlt y hy); (have hz3 := hr.lt hy hs' (by omega)); omega⟩, by dsimp only; omega, KeepF.auto, Sub.autoR⟩
            · refine sr_rd (x_pick_t rfl rfl rfl) ?_
              refine sr_nil ?_
              refine aw_kp [0, 2, 3, 8, 9, 10, 11, 38, 39, 40, 41, 42, 43, 44, 45, 46, 47, 48] ?_
              refine aw_false rfl ?_
              refine aw_exit ?_
              show AW _ _ _ _ _ _ _
              refine aw_seq ?_
              refine aw_seq_region ?_
              refine sr_mv ?_
              refine sr_c (x_gt rfl rfl) (fun h11 => ?_) (fun h11 => ?_)
              · refine sr_nil ?_
                refine aw_kp [8, 9, 10, 86] ?_
                refine aw_true rfl ?_
                refine aw_seq_region ?_
                refine sr_as ?_
                refine sr_as ?_
                refine sr_nil ?_
                refine aw_kp [8, 9, 10] ?_
                refine aw_ret ?_
                show ∃ v H2, ResV _ _ _ _ _ _ v ∧ Sub H2 _ ∧ _
                first | exact ⟨_, H, resV rfl (.cons rfl (.cons rfl .nil)), Sub.autoR, ⟨_, _, rfl, .arg (by omega)⟩, rfl⟩ | exact ⟨_, H, resV rfl (.cons rfl (.cons rfl .nil)), Sub.autoR, ⟨_, _, rfl, .none (by omega) (hE.never hx (by omega) (by omega) (by omega) (by omega))⟩, rfl⟩ | exact ⟨_, H, resV rfl (.cons rfl (.cons rfl .nil)), Sub.autoR, ⟨_, _, rfl, .none (by omega) (hE.late (by omega))⟩, rfl⟩ | exact ⟨_, H, resV rfl (.cons rfl (.cons rfl .nil)), Sub.autoR, ⟨_, _, rfl, .some (by omega) (hE.some_ (by first | exact .inr ⟨x, hx, by omega⟩ | exact .inl (by omega)) (by omega))⟩, rfl⟩
              · refine sr_nil ?_
                refine aw_kp [8, 9, 10, 86] ?_
                refine aw_false rfl ?_
                refine aw_skip ?_
                show AW _ _ _ _ _ _ _
                refine aw_seq_region ?_
                refine sr_mv ?_
                refine sr_as ?_
                refine sr_as ?_
                refine sr_nil ?_
                refine aw_kp [8, 9] ?_
                refine aw_ret ?_
                show ∃ v H2, ResV _ _ _ _ _ _ v ∧ Sub H2 _ ∧ _
                first | exact ⟨_, H, resV rfl (.cons rfl (.cons rfl .nil)), Sub.autoR, ⟨_, _, rfl, .arg (by omega)⟩, rfl⟩ | exact ⟨_, H, resV rfl (.cons rfl (.cons rfl .nil)), Sub.autoR, ⟨_, _, rfl, .none (by omega) (hE.never hx (by omega) (by omega) (by omega) (by omega))⟩, rfl⟩ | exact ⟨_, H, resV rfl (.cons rfl (.cons rfl .nil)), Sub.autoR, ⟨_, _, rfl, .none (by omega) (hE.late (by omega))⟩, rfl⟩ | exact ⟨_, H, resV rfl (.cons rfl (.cons rfl .nil)), Sub.autoR, ⟨_, _, rfl, .some (by omega) (hE.some_ (by first | exact .inr ⟨x, hx, by omega⟩ | exact .inl (by omega)) (by omega))⟩, rfl⟩
          · refine sr_mv ?_
            refine sr_sk ?_
            refine sr_sk ?_
            refine sr_rd (x_pick_f rfl rfl rfl) ?_
            refine sr_nil ?_
            refine aw_kp [0, 2, 3, 8, 9, 10, 11, 38, 39, 40, 41, 42, 43, 44, 45, 46, 47, 48] ?_
            refine aw_false rfl ?_
            refine aw_exit ?_
            show AW _ _ _ _ _ _ _
            refine aw_seq ?_
            refine aw_seq_region ?_
            refine sr_mv ?_
            refine sr_c (x_gt rfl rfl) (fun h12 => ?_) (fun h12 => ?_)
            · refine sr_nil ?_
              refine aw_kp [8, 9, 10, 86] ?_
              refine aw_true rfl ?_
              refine aw_seq_region ?_
              refine sr_as ?_
              refine sr_as ?_
              refine sr_nil ?_
              refine aw_kp [8, 9, 10] ?_
              refine aw_ret ?_
              show ∃ v H2, ResV _ _ _ _ _ _ v ∧ Sub H2 _ ∧ _
              first | exact ⟨_, H, resV rfl (.cons rfl (.cons rfl .nil)), Sub.autoR, ⟨_, _, rfl, .arg (by omega)⟩, rfl⟩ | exact ⟨_, H, resV rfl (.cons rfl (.cons rfl .nil)), Sub.autoR, ⟨_, _, rfl, .none (by omega) (hE.never hx (by omega) (by omega) (by omega) (by omega))⟩, rfl⟩ | exact ⟨_, H, resV rfl (.cons rfl (.cons rfl .nil)), Sub.autoR, ⟨_, _, rfl, .none (by omega) (hE.late (by omega))⟩, rfl⟩ | exact ⟨_, H, resV rfl (.cons rfl (.cons rfl .nil)), Sub.autoR, ⟨_, _, rfl, .some (by omega) (hE.some_ (by first | exact .inr ⟨x, hx, by omega⟩ | exact .inl (by omega)) (by omega))⟩, rfl⟩
            · refine sr_nil ?_
              refine aw_kp [8, 9, 10, 86] ?_
              refine aw_false rfl ?_
              refine aw_skip ?_
              show AW _ _ _ _ _ _ _
              refine aw_seq_region ?_
              refine sr_mv ?_
              refine sr_as ?_
              refine sr_as ?_
              refine sr_nil ?_
              refine aw_kp [8, 9] ?_
              refine aw_ret ?_
              show ∃ v H2, ResV _ _ _ _ _ _ v ∧ Sub H2 _ ∧ _
              first | exact ⟨_, H, resV rfl (.cons rfl (.cons rfl .nil)), Sub.autoR, ⟨_, _, rfl, .arg (by omega)⟩, rfl⟩ | exact ⟨_, H, resV rfl (.cons rfl (.cons rfl .nil)), Sub.autoR, ⟨_, _, rfl, .none (by omega) (hE.never hx (by omega) (by omega) (by omega) (by omega))⟩, rfl⟩ | exact ⟨_, H, resV rfl (.cons rfl (.cons rfl .nil)), Sub.autoR, ⟨_, _, rfl, .none (by omega) (hE.late (by omega))⟩, rfl⟩ | exact ⟨_, H, resV rfl (.cons rfl (.cons rfl .nil)), Sub.autoR, ⟨_, _, rfl, .some (by omega) (hE.some_ (by first | exact .inr ⟨x, hx, by omega⟩ | exact .inl (by omega)) (by omega))⟩, rfl⟩
set_option maxRecDepth 100000 in
set_option maxHeartbeats 400000 in
theorem pearN_s (from_ long w : Int) (H : SHeap) : AC Try.prog W0 24 [.pointer none, .int .i64 from_, .int .i64 long, .int .i64 w] H (fun v H' => v = .tuple #[.int .i64 0, .int .i64 8] ∧ H' = H) := by
  refine ac_of Try.func24 rfl rfl rfl ?_
  refine aw_seq_region ?_
  refine sr_as ?_
  refine sr_as ?_
  refine sr_nil ?_
  refine aw_kp [0, 1, 2, 3, 8, 9] ?_
  refine aw_seq ?_
  refine aw_block ?_
  refine aw_seq_region ?_
  refine sr_mv ?_
  refine sr_d rfl (wtd_none rfl) rfl (opS_call rfl rfl rfl rfl cl90 (pnoneN_s _)) ?_
  rintro _ H ⟨rfl, rfl⟩
  refine sr_as ?_
  refine sr_nil ?_
  refine aw_kp [0, 1, 2, 3, 8, 9, 13] ?_
  refine aw_true rfl ?_
  refine aw_seq_region ?_
  refine sr_as ?_
  refine sr_as ?_
  refine sr_nil ?_
  refine aw_kp [0, 1, 2, 3, 8, 9] ?_
  refine aw_ret ?_
  show ∃ v H2, ResV _ _ _ _ _ _ v ∧ Sub H2 _ ∧ _
  exact ⟨_, H, resV rfl (.cons rfl (.cons rfl .nil)), (by repeat (first | exact Sub.refl _ | apply Sub.drop)), ⟨rfl, rfl⟩⟩
end
end Go.Proofs.Ytjkojdjjooangaa
