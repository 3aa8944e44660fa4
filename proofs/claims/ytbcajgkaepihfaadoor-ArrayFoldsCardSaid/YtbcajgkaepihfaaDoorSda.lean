/- Whole numbers as digits, and digits as whole numbers. -/
import Derived.Test.YtbcajgkaepihfaaDoorProg
import Derived.Test.YtbcajgkaepihfaaDoorSymCpt
import Derived.Test.YtbcajgkaepihfaaDoorSymBld
import Derived.Test.YtbcajgkaepihfaaDoorSymIns
namespace Go.Proofs.YtbcajgkaepihfaaDoor
open Go.Proofs.YtbcajgkaepihfaaDoor.Sym
open Go.RowKit (Below)
set_option linter.unusedVariables false
set_option linter.unusedSimpArgs false
structure DgG where
  m : Nat
  l : List UInt8
  sl : Value
  E : SHeap
structure NmG where
  i : Nat
  m : Nat
  l : List UInt8
theorem fin_dg {N i m : Nat} {l : List UInt8} (h1 : m ≠ 0 ∨ i = 0 → dg N = dg m ++ l) (h2 : m = 0 ∧ i ≠ 0 → dg N = l) (hl : l.length = i) (hN : (dg N).length ≤ 19) (h : ¬ (i < 20 ∧ (i = 0 ∨ m ≠ 0))) : dg N = l := by
  by_cases q : m = 0 ∧ i ≠ 0
  · exact h2 q
  · exfalso
    have h3 := h1 (by omega)
    rw [h3, List.length_append] at hN
    have := List.length_pos_iff.2 (dg_ne m)
    omega
theorem readN_no {l : List UInt8} (h : ¬ (([45] : List UInt8).length ≤ l.length ∧ l.take ([45] : List UInt8).length = [45])) : readN l = rdD false l := by
  cases l with
  | nil => rfl
  | cons c l => exact readN_pos fun e => h ⟨by simp, by simp [e]⟩
theorem readN_yes {l : List UInt8} (h : l.take ([45] : List UInt8).length = [45]) : readN l = rdD true (l.drop 1) := by
  cases l with
  | nil => simp at h
  | cons c l =>
    have : c = 45 := by simpa using h
    subst this; rfl
theorem i64neg {n : Nat} (h : n ≤ 9223372036854775808) : IntKind.i64.wrap (IntKind.u64.wrap (0 - (n : Int))) = -(n : Int) := by rw [IntKind.wrap_u64, IntKind.wrap_i64]; omega
theorem rdA {neg : Bool} {l : List UInt8} (h : l = [] ∨ 19 < l.length ∨ (l.head?.map UInt8.toNat = some 48 ∧ (1 < l.length ∨ neg = true))) : rdD neg l = none := if_pos h
theorem rdB {neg : Bool} {l : List UInt8} (h : ∃ c ∈ l, ¬ isD c) : rdD neg l = none := by
  unfold rdD
  rw [if_pos h]
  split <;> rfl
section
variable {l : List UInt8} (hall : ∀ c ∈ l, isD c)
theorem rd3 {neg : Bool} (hf : ¬ (l = [] ∨ 19 < l.length ∨ (l.head?.map UInt8.toNat = some 48 ∧ (1 < l.length ∨ neg = true)))) (hall : ∀ c ∈ l, isD c) : rdD neg l = if neg = true then (if vlD l ≤ 9223372036854775808 then some (-(vlD l : Int)) else none) else (if vlD l < 9223372036854775808 then some (vlD l : Int) else none) := by
  unfold rdD
  rw [if_neg hf, if_neg (fun ⟨c, hc, hn⟩ => hn (hall c hc))]
theorem rdNT (hf : ¬ (l = [] ∨ 19 < l.length ∨ (l.head?.map UInt8.toNat = some 48 ∧ (1 < l.length ∨ true = true)))) (hall : ∀ c ∈ l, isD c) (h : vlD l ≤ 9223372036854775808) : rdD true l = some (-(vlD l : Int)) := by rw [rd3 hf hall, if_pos rfl, if_pos h]
theorem rdNF (hf : ¬ (l = [] ∨ 19 < l.length ∨ (l.head?.map UInt8.toNat = some 48 ∧ (1 < l.length ∨ true = true)))) (hall : ∀ c ∈ l, isD c) (h : ¬ vlD l ≤ 9223372036854775808) : rdD true l = none := by rw [rd3 hf hall, if_pos rfl, if_neg h]
theorem rdPT (hf : ¬ (l = [] ∨ 19 < l.length ∨ (l.head?.map UInt8.toNat = some 48 ∧ (1 < l.length ∨ false = true)))) (hall : ∀ c ∈ l, isD c) (h : vlD l < 9223372036854775808) : rdD false l = some (vlD l : Int) := by rw [rd3 hf hall, if_neg (by decide), if_pos h]
theorem rdPF (hf : ¬ (l = [] ∨ 19 < l.length ∨ (l.head?.map UInt8.toNat = some 48 ∧ (1 < l.length ∨ false = true)))) (hall : ∀ c ∈ l, isD c) (h : ¬ vlD l < 9223372036854775808) : rdD false l = none := by rw [rd3 hf hall, if_neg (by decide), if_neg h]
end
theorem vlD_lt18 {l : List UInt8} (h : ∀ c ∈ l, isD c) (hl : l.length ≤ 18) : vlD l < 1000000000000000000 := by
  have h1 := vlD_lt l h
  have h2 := Nat.pow_le_pow_right (n := 10) (by decide) hl
  have h3 : (10 : Nat) ^ 18 = 1000000000000000000 := by decide
  omega
theorem vlD_lt19 {l : List UInt8} (h : ∀ c ∈ l, isD c) (hl : l.length ≤ 19) : vlD l < 10000000000000000000 := by
  have h1 := vlD_lt l h
  have h2 := Nat.pow_le_pow_right (n := 10) (by decide) hl
  have h3 := ten19
  omega
theorem by5 : bytesOf Tryd.prog 5 = some 1 := by kernel_rfl
theorem cl57 : Callable Tryd.prog 57 := ⟨Tryd.f57, Tryd.func57, by kernel_rfl, by kernel_rfl⟩
theorem cl58 : Callable Tryd.prog 58 := ⟨Tryd.f58, Tryd.func58, by kernel_rfl, by kernel_rfl⟩
theorem cl75 : Callable Tryd.prog 75 := ⟨Tryd.f75, Tryd.func75, by kernel_rfl, by kernel_rfl⟩
theorem cl77 : Callable Tryd.prog 77 := ⟨Tryd.f77, Tryd.func77, by kernel_rfl, by kernel_rfl⟩
theorem sz5 : szOf Tryd.prog 5 = some 1 := by kernel_rfl
theorem zr5 : zeroOf Tryd.prog 5 = some (.int .u8 0) := by kernel_rfl
section
variable {W0 : World}
set_option maxRecDepth 100000 in
set_option maxHeartbeats 400000 in
theorem digits_s (n : Nat) (hn : n < 18446744073709551616) (H : SHeap) : AC Tryd.prog W0 58 [.int .u64 n] H (fun v H' => v = .string (bs (dg n)) ∧ H' = H) := by
  have hd20 := dg_len 19 n (by have : (10 : Nat) ^ (19 + 1) = 100000000000000000000 := (by decide); omega)
  refine ac_of Tryd.func58 rfl rfl rfl ?_
  refine aw_seq_region ?_
  refine sr_as ?_
  refine sr_nil ?_
  refine aw_kp [0, 2] ?_
  refine aw_seq_region ?_
  refine sr_as ?_
  refine sr_nil ?_
  refine aw_kp [0, 2, 3] ?_
  refine aw_block ?_
  refine aw_loop (ι := DgG) (fun s => s.m ≤ n ∧ dg n = dg s.m ++ s.l ∧ OwnVec 1 5 s.sl s.l.length (byC s.l) s.E) (fun s => [(0, .int .u64 s.m), (2, .string (bs [])), (3, s.sl)]) (fun s => s.E ++ H) (fun s => s.m) ⟨n, [], .slice none 0 0, []⟩ (⟨Nat.le_refl _, (List.append_nil _).symm, .nil⟩) KeepF.auto Sub.autoP ?_
  intro s hs9
  obtain ⟨m, l, sl, E⟩ := s
  dsimp only at hs9 ⊢
  obtain ⟨hm, hdg, V⟩ := hs9
  obtain ⟨a3, c3, rfl⟩ := V.isSl
  have hll : l.length ≤ 20 := by rw [hdg, List.length_append] at hd20; omega
  refine aw_block ?_
  refine aw_seq_region ?_
  refine sr_mv ?_
  refine sr_rd (x_rem' (c := ((m % 10 : Nat) : Int)) rfl rfl (by omega) rfl) ?_
  refine sr_rd (x_add' rfl rfl (u64w (by omega) (by omega))) ?_
  refine sr_rd (x_conv' (c := ((d8 (m % 10)).toNat : Int)) Tryd.underlying95 Tryd.underlying5 rfl (by rw [d8_nat (by omega)]; exact (u8w (by omega) (by omega)).trans (by omega))) ?_
  refine sr_new rfl (wtd_none rfl) rfl (x_buildSlice Tryd.underlying23 sz5 zr5 rfl rfl rfl rfl Parts.auto Fill.auto) ?_
  intro r2_4 hr2_4 gr2_4
  refine sr_mv ?_
  refine sr_d rfl (wtd_none rfl) rfl (opS_append (G := E ++ H) (N := byC l) (m := l.length) Tryd.underlying23 sz5 zr5 rfl by5 rfl rfl (OwnVec.mk (r := r2_4) (n := 1) (cap := 1) (L := [.int .u8 ((d8 (m % 10)).toNat : Int)]) (post := []) rfl rfl (by omega) (by omega)) Sub.autoP ((V.src Sub.autoE)) (by rw [byC_len, Nat.mul_one]) (byC_one l) (by omega) (by omega)) ?_
  rintro v10 _ ⟨E10, hV10, rfl⟩
  rw [Nat.add_comm 1 l.length] at hV10
  obtain ⟨a10, cap10, rfl⟩ := hV10.isSl
  obtain ⟨b10, rfl, hc10⟩ := hV10.pos (by omega)
  refine sr_as ?_
  refine sr_nil ?_
  refine aw_kp [0, 2, 3, 4, 5, 6, 7, 8, 9, 10] ?_
  refine aw_seq_region ?_
  refine sr_mv ?_
  refine sr_rd (x_quo' (c := ((m / 10 : Nat) : Int)) rfl rfl (by omega) (u64w (n := ((m / 10 : Nat) : Int)) (by omega) (by omega))) ?_
  refine sr_as ?_
  refine sr_nil ?_
  refine aw_kp [0, 2, 3, 4, 5, 6, 7, 8, 9, 10, 11, 12] ?_
  refine aw_seq_region ?_
  refine sr_mv ?_
  refine sr_c (x_eq rfl rfl) (fun h1 => ?_) (fun h1 => ?_)
  · refine sr_nil ?_
    refine aw_kp [0, 2, 3, 4, 5, 6, 7, 8, 9, 10, 11, 12, 13, 14] ?_
    refine aw_true rfl ?_
    refine aw_seq_region ?_
    refine sr_mv ?_
    refine sr_rd (x_b2s (bs := d8 (m % 10) :: l) Tryd.underlying23 Tryd.underlying9 Tryd.underlying5 rfl (hc10 Sub.autoE) (by simp)) ?_
    refine sr_as ?_
    refine sr_nil ?_
    refine aw_kp [0, 2, 3, 4, 5, 6, 7, 8, 9, 10, 11, 12, 13, 14, 15, 16] ?_
    refine aw_ret ?_
    show ∃ v H2, ResV _ _ _ _ _ _ v ∧ Sub H2 _ ∧ _
    exact ⟨_, H, resV rfl (.cons rfl .nil), Sub.autoP, ⟨by rw [hdg, dg_lt (show m < 10 by omega), show m % 10 = m by omega]; rfl, rfl⟩⟩
  · refine sr_nil ?_
    refine aw_kp [0, 2, 3, 4, 5, 6, 7, 8, 9, 10, 11, 12, 13, 14] ?_
    refine aw_false rfl ?_
    refine aw_skip ?_
    show ∃ s', _ ∧ _ ∧ _ ∧ _
    exact ⟨⟨m / 10, d8 (m % 10) :: l, _, E10⟩, ⟨by dsimp only; omega, (by dsimp only; rw [hdg, dg_ge (by omega)]; simp), hV10⟩, by dsimp only; omega, KeepF.auto, Sub.autoP⟩
set_option maxRecDepth 100000 in
set_option maxHeartbeats 400000 in
theorem number_s (n : Int) (hn : -9223372036854775808 ≤ n ∧ n ≤ 9223372036854775807) (H : SHeap) : AC Tryd.prog W0 27 [.int .i64 n] H (fun v H' => v = .string (bs (numB n)) ∧ H' = H) := by
  have hl1 := dg_len 19 (-n).toNat (by have : (10 : Nat) ^ (19 + 1) = 100000000000000000000 := (by decide); omega)
  refine ac_of Tryd.func27 rfl rfl rfl ?_
  refine aw_seq_region ?_
  refine sr_as ?_
  refine sr_nil ?_
  refine aw_kp [0, 2] ?_
  refine aw_seq ?_
  refine aw_seq_region ?_
  refine sr_mv ?_
  refine sr_c (x_lt rfl rfl) (fun h1 => ?_) (fun h1 => ?_)
  · refine sr_nil ?_
    refine aw_kp [0, 2, 4] ?_
    refine aw_true rfl ?_
    refine aw_seq_region ?_
    refine sr_mv ?_
    refine sr_rd (x_conv' (c := n + 18446744073709551616) Tryd.underlying2 Tryd.underlying95 rfl (u64neg (by omega) (by omega))) ?_
    refine sr_rd (x_neg' (c := (((-n).toNat : Nat) : Int)) rfl (u64neg2 (by omega) (by omega))) ?_
    refine sr_d rfl (wtd_none rfl) rfl (opS_call rfl rfl rfl rfl cl58 (digits_s _ (by omega) _)) ?_
    rintro _ H ⟨rfl, rfl⟩
    refine sr_rd (x_catB rfl rfl (by have : ([45] : List UInt8).length = 1 := rfl; omega)) ?_
    refine sr_as ?_
    refine sr_nil ?_
    refine aw_kp [0, 2] ?_
    refine aw_ret ?_
    show ∃ v H2, ResV _ _ _ _ _ _ v ∧ Sub H2 _ ∧ _
    exact ⟨_, H, resV rfl (.cons rfl .nil), (by repeat (first | exact Sub.refl _ | apply Sub.drop)), (by first | exact ⟨by unfold numB; rw [if_pos (by omega)]; rfl, rfl⟩ | exact ⟨by unfold numB; rw [if_neg (by omega)]; rfl, rfl⟩)⟩
  · refine sr_nil ?_
    refine aw_kp [0, 2, 4] ?_
    refine aw_false rfl ?_
    refine aw_skip ?_
    show AW _ _ _ _ _ _ _
    refine aw_seq_region ?_
    refine sr_mv ?_
    refine sr_rd (x_conv' (c := ((n.toNat : Nat) : Int)) Tryd.underlying2 Tryd.underlying95 rfl ((u64w (by omega) (by omega)).trans (by omega))) ?_
    refine sr_d rfl (wtd_none rfl) rfl (opS_call rfl rfl rfl rfl cl58 (digits_s _ (by omega) _)) ?_
    rintro _ H ⟨rfl, rfl⟩
    refine sr_as ?_
    refine sr_nil ?_
    refine aw_kp [2] ?_
    refine aw_ret ?_
    show ∃ v H2, ResV _ _ _ _ _ _ v ∧ Sub H2 _ ∧ _
    exact ⟨_, H, resV rfl (.cons rfl .nil), (by repeat (first | exact Sub.refl _ | apply Sub.drop)), (by first | exact ⟨by unfold numB; rw [if_pos (by omega)]; rfl, rfl⟩ | exact ⟨by unfold numB; rw [if_neg (by omega)]; rfl, rfl⟩)⟩
set_option maxRecDepth 100000 in
set_option maxHeartbeats 400000 in
theorem lnumber_s (n : Int) (hn : -9223372036854775808 ≤ n ∧ n ≤ 9223372036854775807) (H : SHeap) : AC Tryd.prog W0 28 [.int .i64 n] H (fun v H' => v = .string (bs (numB n)) ∧ H' = H) := by
  refine ac_of Tryd.func28 rfl rfl rfl ?_
  refine aw_seq_region ?_
  refine sr_as ?_
  refine sr_nil ?_
  refine aw_kp [0, 2] ?_
  refine aw_seq_region ?_
  refine sr_as ?_
  refine sr_nil ?_
  refine aw_kp [0, 2, 3] ?_
  refine aw_seq_region ?_
  refine sr_mv ?_
  refine sr_c (x_lt rfl rfl) (fun h1 => ?_) (fun h1 => ?_)
  · refine sr_as ?_
    refine sr_nil ?_
    refine aw_kp [0, 2, 3, 4] ?_
    refine aw_seq ?_
    refine aw_seq_region ?_
    refine sr_as ?_
    refine sr_nil ?_
    refine aw_kp [0, 2, 3, 4, 5] ?_
    refine aw_block ?_
    refine aw_keep (keep_cons (t := 0) (v := .int .i64 (-((n.natAbs : Nat) : Int))) (congrArg (fun x => some (Value.int .i64 x)) (by omega)) (keep_cons (t := 2) rfl (keep_cons (t := 3) rfl (keep_cons (t := 4) rfl (keep_cons (t := 5) rfl keep_nil))))) ?_
    refine aw_loop (ι := NmG) (fun s => s.i ≤ 20 ∧ s.l.length = s.i ∧ (s.m ≠ 0 ∨ s.i = 0 → dg n.natAbs = dg s.m ++ s.l) ∧ (s.m = 0 ∧ s.i ≠ 0 → dg n.natAbs = s.l) ∧ s.m ≤ n.natAbs) (fun s => [(0, .int .i64 (-((s.m : Nat) : Int))), (2, .string (bs [])), (3, .string (bs s.l)), (4, .bool true), (5, .int .i64 s.i)]) (fun _ => H) (fun s => 20 - s.i) ⟨0, n.natAbs, []⟩ (⟨by dsimp only; omega, rfl, fun _ => (List.append_nil _).symm, fun h => absurd rfl h.2, Nat.le_refl _⟩) KeepF.auto (Sub.refl _) ?_
    intro s hs9
    obtain ⟨i, m, l⟩ := s
    dsimp only at hs9 ⊢
    obtain ⟨hi, hli, hd1, hd2, hmn⟩ := hs9
    have hdm := dg_len 18 n.natAbs (by have : (10 : Nat) ^ (18 + 1) = 10000000000000000000 := (by decide); omega)
    refine aw_seq ?_
    refine aw_seq_region ?_
    refine sr_mv ?_
    refine sr_c (x_lt rfl rfl) (fun h2 => ?_) (fun h2 => ?_)
    · refine sr_mv ?_
      refine sr_ry (x_move rfl) ?_
      refine sr_cy (x_eq rfl rfl) (fun h3 => ?_) (fun h3 => ?_)
      · refine sr_ry (x_move rfl) ?_
        refine sr_sk ?_
        refine sr_sk ?_
        refine sr_ry (x_pick_t rfl rfl rfl) ?_
        refine sr_rd (x_pick_t rfl rfl rfl) ?_
        refine sr_nil ?_
        refine aw_kp [0, 2, 3, 4, 5, 9, 10, 11, 12, 13, 14, 15, 16, 17, 18] ?_
        refine aw_true rfl ?_
        refine aw_skip ?_
        show AW _ _ _ _ _ _ _
        refine aw_seq ?_
        refine aw_block ?_
        refine aw_seq_region ?_
        refine sr_mv ?_
        refine sr_rd (x_rem' (c := (-((m % 10 : Nat) : Int))) rfl rfl (by omega) (Int.neg_tmod _ _)) ?_
        refine sr_as ?_
        refine sr_nil ?_
        refine aw_kp [0, 2, 3, 4, 5, 6, 9, 10, 11, 12, 13, 14, 15, 16, 17, 18, 21, 22] ?_
        refine aw_seq ?_
        refine aw_seq_region ?_
        refine sr_mv ?_
        refine sr_c (x_lt rfl rfl) (fun h4 => ?_) (fun h4 => ?_)
        · refine sr_nil ?_
          refine aw_kp [0, 2, 3, 4, 5, 6, 9, 10, 11, 12, 13, 14, 15, 16, 17, 18, 21, 22, 23, 24] ?_
          refine aw_true rfl ?_
          refine aw_region ?_
          refine sr_mv ?_
          refine sr_rd (x_neg' (c := ((m % 10 : Nat) : Int)) rfl ((i64w (by omega) (by omega)).trans (by omega))) ?_
          refine sr_as ?_
          refine sr_nil ?_
          show AW _ _ _ _ _ _ _
          refine aw_seq_region ?_
          refine sr_mv ?_
          refine sr_rd (x_add' rfl rfl (i64w (by omega) (by omega))) ?_
          refine sr_rd (x_conv' (c := ((d8 (m % 10)).toNat : Int)) Tryd.underlying2 Tryd.underlying5 rfl (by rw [d8_nat (by omega)]; exact (u8w (by omega) (by omega)).trans (by omega))) ?_
          refine sr_new rfl (wtd_none rfl) rfl (x_buildSlice Tryd.underlying23 sz5 zr5 rfl rfl rfl rfl Parts.auto Fill.auto) ?_
          intro r9_3 hr9_3 gr9_3
          refine sr_rd (x_b2s (bs := [d8 (m % 10)]) Tryd.underlying23 Tryd.underlying9 Tryd.underlying5 rfl (cells_ext mauto Ext.auto) rfl) ?_
          refine sr_mv ?_
          refine sr_rd (x_catB rfl rfl (by have : ([d8 (m % 10)] : List UInt8).length = 1 := rfl; omega)) ?_
          refine sr_as ?_
          refine sr_nil ?_
          refine aw_kp [0, 2, 3, 4, 5, 6, 9, 10, 11, 12, 13, 14, 15, 16, 17, 18, 21, 22, 23, 24, 25, 26, 27, 28, 29, 30, 31, 32, 33] ?_
          refine aw_region ?_
          refine sr_mv ?_
          refine sr_rd (x_quo' (c := (-((m / 10 : Nat) : Int))) rfl rfl (by omega) ((congrArg _ (Int.neg_tdiv _ _)).trans (i64w (n := (-((m / 10 : Nat) : Int))) (by omega) (by omega)))) ?_
          refine sr_as ?_
          refine sr_nil ?_
          show AW _ _ _ _ _ _ _
          refine aw_region ?_
          refine sr_mv ?_
          refine sr_rd (x_add' rfl rfl (i64w (by omega) (by omega))) ?_
          refine sr_as ?_
          refine sr_nil ?_
          show ∃ s', _ ∧ _ ∧ _ ∧ _
          exact ⟨⟨i + 1, m / 10, d8 (m % 10) :: l⟩, ⟨by dsimp only; omega, by dsimp only; rw [List.length_cons, hli], (by dsimp only; intro q; rw [hd1 (by omega), dg_ge (by omega)]; simp), (by dsimp only; intro q; rw [hd1 (by omega), dg_lt (by omega), show m % 10 = m by omega]; rfl), by dsimp only; omega⟩, by dsimp only; omega, KeepF.auto, Sub.autoP⟩
        · refine sr_nil ?_
          refine aw_kp [0, 2, 3, 4, 5, 6, 9, 10, 11, 12, 13, 14, 15, 16, 17, 18, 21, 22, 23, 24] ?_
          refine aw_false rfl ?_
          refine aw_skip ?_
          show AW _ _ _ _ _ _ _
          refine aw_seq_region ?_
          refine sr_mv ?_
          refine sr_rd (x_add' rfl rfl (i64w (by omega) (by omega))) ?_
          refine sr_rd (x_conv' (c := ((d8 (m % 10)).toNat : Int)) Tryd.underlying2 Tryd.underlying5 rfl (by rw [d8_nat (by omega)]; exact (u8w (by omega) (by omega)).trans (by omega))) ?_
          refine sr_new rfl (wtd_none rfl) rfl (x_buildSlice Tryd.underlying23 sz5 zr5 rfl rfl rfl rfl Parts.auto Fill.auto) ?_
          intro r9_3 hr9_3 gr9_3
          refine sr_rd (x_b2s (bs := [d8 (m % 10)]) Tryd.underlying23 Tryd.underlying9 Tryd.underlying5 rfl (cells_ext mauto Ext.auto) rfl) ?_
          refine sr_mv ?_
          refine sr_rd (x_catB rfl rfl (by have : ([d8 (m % 10)] : List UInt8).length = 1 := rfl; omega)) ?_
          refine sr_as ?_
          refine sr_nil ?_
          refine aw_kp [0, 2, 3, 4, 5, 6, 9, 10, 11, 12, 13, 14, 15, 16, 17, 18, 21, 22, 23, 24, 27, 28, 29, 30, 31, 32, 33] ?_
          refine aw_region ?_
          refine sr_mv ?_
          refine sr_rd (x_quo' (c := (-((m / 10 : Nat) : Int))) rfl rfl (by omega) ((congrArg _ (Int.neg_tdiv _ _)).trans (i64w (n := (-((m / 10 : Nat) : Int))) (by omega) (by omega)))) ?_
          refine sr_as ?_
          refine sr_nil ?_
          show AW _ _ _ _ _ _ _
          refine aw_region ?_
          refine sr_mv ?_
          refine sr_rd (x_add' rfl rfl (i64w (by omega) (by omega))) ?_
          refine sr_as ?_
          refine sr_nil ?_
          show ∃ s', _ ∧ _ ∧ _ ∧ _
          exact ⟨⟨i + 1, m / 10, d8 (m % 10) :: l⟩, ⟨by dsimp only; omega, by dsimp only; rw [List.length_cons, hli], (by dsimp only; intro q; rw [hd1 (by omega), dg_ge (by omega)]; simp), (by dsimp only; intro q; rw [hd1 (by omega), dg_lt (by omega), show m % 10 = m by omega]; rfl), by dsimp only; omega⟩, by dsimp only; omega, KeepF.auto, Sub.autoP⟩
      · refine sr_ry (x_move rfl) ?_
        refine sr_ry (x_move rfl) ?_
        refine sr_cy (x_ne rfl rfl) (fun h5 => ?_) (fun h5 => ?_)
        · refine sr_ry (x_pick_f rfl rfl rfl) ?_
          refine sr_rd (x_pick_t rfl rfl rfl) ?_
          refine sr_nil ?_
          refine aw_kp [0, 2, 3, 4, 5, 9, 10, 11, 12, 13, 14, 15, 16, 17, 18] ?_
          refine aw_true rfl ?_
          refine aw_skip ?_
          show AW _ _ _ _ _ _ _
          refine aw_seq ?_
          refine aw_block ?_
          refine aw_seq_region ?_
          refine sr_mv ?_
          refine sr_rd (x_rem' (c := (-((m % 10 : Nat) : Int))) rfl rfl (by omega) (Int.neg_tmod _ _)) ?_
          refine sr_as ?_
          refine sr_nil ?_
          refine aw_kp [0, 2, 3, 4, 5, 6, 9, 10, 11, 12, 13, 14, 15, 16, 17, 18, 21, 22] ?_
          refine aw_seq ?_
          refine aw_seq_region ?_
          refine sr_mv ?_
          refine sr_c (x_lt rfl rfl) (fun h6 => ?_) (fun h6 => ?_)
          · refine sr_nil ?_
            refine aw_kp [0, 2, 3, 4, 5, 6, 9, 10, 11, 12, 13, 14, 15, 16, 17, 18, 21, 22, 23, 24] ?_
            refine aw_true rfl ?_
            refine aw_region ?_
            refine sr_mv ?_
            refine sr_rd (x_neg' (c := ((m % 10 : Nat) : Int)) rfl ((i64w (by omega) (by omega)).trans (by omega))) ?_
            refine sr_as ?_
            refine sr_nil ?_
            show AW _ _ _ _ _ _ _
            refine aw_seq_region ?_
            refine sr_mv ?_
            refine sr_rd (x_add' rfl rfl (i64w (by omega) (by omega))) ?_
            refine sr_rd (x_conv' (c := ((d8 (m % 10)).toNat : Int)) Tryd.underlying2 Tryd.underlying5 rfl (by rw [d8_nat (by omega)]; exact (u8w (by omega) (by omega)).trans (by omega))) ?_
            refine sr_new rfl (wtd_none rfl) rfl (x_buildSlice Tryd.underlying23 sz5 zr5 rfl rfl rfl rfl Parts.auto Fill.auto) ?_
            intro r9_3 hr9_3 gr9_3
            refine sr_rd (x_b2s (bs := [d8 (m % 10)]) Tryd.underlying23 Tryd.underlying9 Tryd.underlying5 rfl (cells_ext mauto Ext.auto) rfl) ?_
            refine sr_mv ?_
            refine sr_rd (x_catB rfl rfl (by have : ([d8 (m % 10)] : List UInt8).length = 1 := rfl; omega)) ?_
            refine sr_as ?_
            refine sr_nil ?_
            refine aw_kp [0, 2, 3, 4, 5, 6, 9, 10, 11, 12, 13, 14, 15, 16, 17, 18, 21, 22, 23, 24, 25, 26, 27, 28, 29, 30, 31, 32, 33] ?_
            refine aw_region ?_
            refine sr_mv ?_
            refine sr_rd (x_quo' (c := (-((m / 10 : Nat) : Int))) rfl rfl (by omega) ((congrArg _ (Int.neg_tdiv _ _)).trans (i64w (n := (-((m / 10 : Nat) : Int))) (by omega) (by omega)))) ?_
            refine sr_as ?_
            refine sr_nil ?_
            show AW _ _ _ _ _ _ _
            refine aw_region ?_
            refine sr_mv ?_
            refine sr_rd (x_add' rfl rfl (i64w (by omega) (by omega))) ?_
            refine sr_as ?_
            refine sr_nil ?_
            show ∃ s', _ ∧ _ ∧ _ ∧ _
            exact ⟨⟨i + 1, m / 10, d8 (m % 10) :: l⟩, ⟨by dsimp only; omega, by dsimp only; rw [List.length_cons, hli], (by dsimp only; intro q; rw [hd1 (by omega), dg_ge (by omega)]; simp), (by dsimp only; intro q; rw [hd1 (by omega), dg_lt (by omega), show m % 10 = m by omega]; rfl), by dsimp only; omega⟩, by dsimp only; omega, KeepF.auto, Sub.autoP⟩
          · refine sr_nil ?_
            refine aw_kp [0, 2, 3, 4, 5, 6, 9, 10, 11, 12, 13, 14, 15, 16, 17, 18, 21, 22, 23, 24] ?_
            refine aw_false rfl ?_
            refine aw_skip ?_
            show AW _ _ _ _ _ _ _
            refine aw_seq_region ?_
            refine sr_mv ?_
            refine sr_rd (x_add' rfl rfl (i64w (by omega) (by omega))) ?_
            refine sr_rd (x_conv' (c := ((d8 (m % 10)).toNat : Int)) Tryd.underlying2 Tryd.underlying5 rfl (by rw [d8_nat (by omega)]; exact (u8w (by omega) (by omega)).trans (by omega))) ?_
            refine sr_new rfl (wtd_none rfl) rfl (x_buildSlice Tryd.underlying23 sz5 zr5 rfl rfl rfl rfl Parts.auto Fill.auto) ?_
            intro r9_3 hr9_3 gr9_3
            refine sr_rd (x_b2s (bs := [d8 (m % 10)]) Tryd.underlying23 Tryd.underlying9 Tryd.underlying5 rfl (cells_ext mauto Ext.auto) rfl) ?_
            refine sr_mv ?_
            refine sr_rd (x_catB rfl rfl (by have : ([d8 (m % 10)] : List UInt8).length = 1 := rfl; omega)) ?_
            refine sr_as ?_
            refine sr_nil ?_
            refine aw_kp [0, 2, 3, 4, 5, 6, 9, 10, 11, 12, 13, 14, 15, 16, 17, 18, 21, 22, 23, 24, 27, 28, 29, 30, 31, 32, 33] ?_
            refine aw_region ?_
            refine sr_mv ?_
            refine sr_rd (x_quo' (c := (-((m / 10 : Nat) : Int))) rfl rfl (by omega) ((congrArg _ (Int.neg_tdiv _ _)).trans (i64w (n := (-((m / 10 : Nat) : Int))) (by omega) (by omega)))) ?_
            refine sr_as ?_
            refine sr_nil ?_
            show AW _ _ _ _ _ _ _
            refine aw_region ?_
            refine sr_mv ?_
            refine sr_rd (x_add' rfl rfl (i64w (by omega) (by omega))) ?_
            refine sr_as ?_
            refine sr_nil ?_
            show ∃ s', _ ∧ _ ∧ _ ∧ _
            exact ⟨⟨i + 1, m / 10, d8 (m % 10) :: l⟩, ⟨by dsimp only; omega, by dsimp only; rw [List.length_cons, hli], (by dsimp only; intro q; rw [hd1 (by omega), dg_ge (by omega)]; simp), (by dsimp only; intro q; rw [hd1 (by omega), dg_lt (by omega), show m % 10 = m by omega]; rfl), by dsimp only; omega⟩, by dsimp only; omega, KeepF.auto, Sub.autoP⟩
        · refine sr_ry (x_pick_f rfl rfl rfl) ?_
          refine sr_rd (x_pick_t rfl rfl rfl) ?_
          refine sr_nil ?_
          refine aw_kp [0, 2, 3, 4, 5, 9, 10, 11, 12, 13, 14, 15, 16, 17, 18] ?_
          refine aw_false rfl ?_
          refine aw_exit ?_
          show AW _ _ _ _ _ _ _
          refine aw_seq ?_
          refine aw_seq_region ?_
          refine sr_mv ?_
          refine sr_nil ?_
          refine aw_kp [2, 3, 36] ?_
          refine aw_true rfl ?_
          refine aw_seq_region ?_
          refine sr_mv ?_
          refine sr_rd (x_catB rfl rfl (by have : ([45] : List UInt8).length = 1 := rfl; omega)) ?_
          refine sr_as ?_
          refine sr_nil ?_
          refine aw_kp [2, 3] ?_
          refine aw_ret ?_
          show ∃ v H2, ResV _ _ _ _ _ _ v ∧ Sub H2 _ ∧ _
          exact ⟨_, H, resV rfl (.cons rfl .nil), Sub.autoP, ⟨by have e9 := fin_dg hd1 hd2 hli hdm (by omega); rw [← e9]; unfold numB; first | (rw [if_pos (by omega), show (-n).toNat = n.natAbs by omega]; rfl) | (rw [if_neg (by omega), show n.toNat = n.natAbs by omega]; rfl), rfl⟩⟩
    · refine sr_mv ?_
      refine sr_sk ?_
      refine sr_sk ?_
      refine sr_sk ?_
      refine sr_skip rfl (wtd_un rfl rfl rfl) rfl ?_
      refine sr_skip rfl (wtd_un rfl rfl rfl) rfl ?_
      refine sr_sk ?_
      refine sr_rd (x_pick_f rfl rfl rfl) ?_
      refine sr_nil ?_
      refine aw_kp [0, 2, 3, 4, 5, 9, 10, 11, 12, 13, 14, 15, 16, 17, 18] ?_
      refine aw_false rfl ?_
      refine aw_exit ?_
      show AW _ _ _ _ _ _ _
      refine aw_seq ?_
      refine aw_seq_region ?_
      refine sr_mv ?_
      refine sr_nil ?_
      refine aw_kp [2, 3, 36] ?_
      refine aw_true rfl ?_
      refine aw_seq_region ?_
      refine sr_mv ?_
      refine sr_rd (x_catB rfl rfl (by have : ([45] : List UInt8).length = 1 := rfl; omega)) ?_
      refine sr_as ?_
      refine sr_nil ?_
      refine aw_kp [2, 3] ?_
      refine aw_ret ?_
      show ∃ v H2, ResV _ _ _ _ _ _ v ∧ Sub H2 _ ∧ _
      exact ⟨_, H, resV rfl (.cons rfl .nil), Sub.autoP, ⟨by have e9 := fin_dg hd1 hd2 hli hdm (by omega); rw [← e9]; unfold numB; first | (rw [if_pos (by omega), show (-n).toNat = n.natAbs by omega]; rfl) | (rw [if_neg (by omega), show n.toNat = n.natAbs by omega]; rfl), rfl⟩⟩
  · refine sr_as ?_
    refine sr_nil ?_
    refine aw_kp [0, 2, 3, 4] ?_
    refine aw_seq ?_
    refine aw_seq_region ?_
    refine sr_as ?_
    refine sr_nil ?_
    refine aw_kp [0, 2, 3, 4, 5] ?_
    refine aw_block ?_
    refine aw_keep (keep_cons (t := 0) (v := .int .i64 ((n.natAbs : Nat) : Int)) (congrArg (fun x => some (Value.int .i64 x)) (by omega)) (keep_cons (t := 2) rfl (keep_cons (t := 3) rfl (keep_cons (t := 4) rfl (keep_cons (t := 5) rfl keep_nil))))) ?_
    refine aw_loop (ι := NmG) (fun s => s.i ≤ 20 ∧ s.l.length = s.i ∧ (s.m ≠ 0 ∨ s.i = 0 → dg n.natAbs = dg s.m ++ s.l) ∧ (s.m = 0 ∧ s.i ≠ 0 → dg n.natAbs = s.l) ∧ s.m ≤ n.natAbs) (fun s => [(0, .int .i64 ((s.m : Nat) : Int)), (2, .string (bs [])), (3, .string (bs s.l)), (4, .bool false), (5, .int .i64 s.i)]) (fun _ => H) (fun s => 20 - s.i) ⟨0, n.natAbs, []⟩ (⟨by dsimp only; omega, rfl, fun _ => (List.append_nil _).symm, fun h => absurd rfl h.2, Nat.le_refl _⟩) KeepF.auto (Sub.refl _) ?_
    intro s hs9
    obtain ⟨i, m, l⟩ := s
    dsimp only at hs9 ⊢
    obtain ⟨hi, hli, hd1, hd2, hmn⟩ := hs9
    have hdm := dg_len 18 n.natAbs (by have : (10 : Nat) ^ (18 + 1) = 10000000000000000000 := (by decide); omega)
    refine aw_seq ?_
    refine aw_seq_region ?_
    refine sr_mv ?_
    refine sr_c (x_lt rfl rfl) (fun h7 => ?_) (fun h7 => ?_)
    · refine sr_mv ?_
      refine sr_ry (x_move rfl) ?_
      refine sr_cy (x_eq rfl rfl) (fun h8 => ?_) (fun h8 => ?_)
      · refine sr_ry (x_move rfl) ?_
        refine sr_sk ?_
        refine sr_sk ?_
        refine sr_ry (x_pick_t rfl rfl rfl) ?_
        refine sr_rd (x_pick_t rfl rfl rfl) ?_
        refine sr_nil ?_
        refine aw_kp [0, 2, 3, 4, 5, 9, 10, 11, 12, 13, 14, 15, 16, 17, 18] ?_
        refine aw_true rfl ?_
        refine aw_skip ?_
        show AW _ _ _ _ _ _ _
        refine aw_seq ?_
        refine aw_block ?_
        refine aw_seq_region ?_
        refine sr_mv ?_
        refine sr_rd (x_rem' (c := ((m % 10 : Nat) : Int)) rfl rfl (by omega) (rfl)) ?_
        refine sr_as ?_
        refine sr_nil ?_
        refine aw_kp [0, 2, 3, 4, 5, 6, 9, 10, 11, 12, 13, 14, 15, 16, 17, 18, 21, 22] ?_
        refine aw_seq ?_
        refine aw_seq_region ?_
        refine sr_mv ?_
        refine sr_c (x_lt rfl rfl) (fun h9 => ?_) (fun h9 => ?_)
        · refine sr_nil ?_
          refine aw_kp [0, 2, 3, 4, 5, 6, 9, 10, 11, 12, 13, 14, 15, 16, 17, 18, 21, 22, 23, 24] ?_
          refine aw_true rfl ?_
          refine aw_region ?_
          refine sr_mv ?_
          refine sr_rd (x_neg' (c := ((m % 10 : Nat) : Int)) rfl ((i64w (by omega) (by omega)).trans (by omega))) ?_
          refine sr_as ?_
          refine sr_nil ?_
          show AW _ _ _ _ _ _ _
          refine aw_seq_region ?_
          refine sr_mv ?_
          refine sr_rd (x_add' rfl rfl (i64w (by omega) (by omega))) ?_
          refine sr_rd (x_conv' (c := ((d8 (m % 10)).toNat : Int)) Tryd.underlying2 Tryd.underlying5 rfl (by rw [d8_nat (by omega)]; exact (u8w (by omega) (by omega)).trans (by omega))) ?_
          refine sr_new rfl (wtd_none rfl) rfl (x_buildSlice Tryd.underlying23 sz5 zr5 rfl rfl rfl rfl Parts.auto Fill.auto) ?_
          intro r9_3 hr9_3 gr9_3
          refine sr_rd (x_b2s (bs := [d8 (m % 10)]) Tryd.underlying23 Tryd.underlying9 Tryd.underlying5 rfl (cells_ext mauto Ext.auto) rfl) ?_
          refine sr_mv ?_
          refine sr_rd (x_catB rfl rfl (by have : ([d8 (m % 10)] : List UInt8).length = 1 := rfl; omega)) ?_
          refine sr_as ?_
          refine sr_nil ?_
          refine aw_kp [0, 2, 3, 4, 5, 6, 9, 10, 11, 12, 13, 14, 15, 16, 17, 18, 21, 22, 23, 24, 25, 26, 27, 28, 29, 30, 31, 32, 33] ?_
          refine aw_region ?_
          refine sr_mv ?_
          refine sr_rd (x_quo' (c := ((m / 10 : Nat) : Int)) rfl rfl (by omega) (i64w (n := ((m / 10 : Nat) : Int)) (by omega) (by omega))) ?_
          refine sr_as ?_
          refine sr_nil ?_
          show AW _ _ _ _ _ _ _
          refine aw_region ?_
          refine sr_mv ?_
          refine sr_rd (x_add' rfl rfl (i64w (by omega) (by omega))) ?_
          refine sr_as ?_
          refine sr_nil ?_
          show ∃ s', _ ∧ _ ∧ _ ∧ _
          exact ⟨⟨i + 1, m / 10, d8 (m % 10) :: l⟩, ⟨by dsimp only; omega, by dsimp only; rw [List.length_cons, hli], (by dsimp only; intro q; rw [hd1 (by omega), dg_ge (by omega)]; simp), (by dsimp only; intro q; rw [hd1 (by omega), dg_lt (by omega), show m % 10 = m by omega]; rfl), by dsimp only; omega⟩, by dsimp only; omega, KeepF.auto, Sub.autoP⟩
        · refine sr_nil ?_
          refine aw_kp [0, 2, 3, 4, 5, 6, 9, 10, 11, 12, 13, 14, 15, 16, 17, 18, 21, 22, 23, 24] ?_
          refine aw_false rfl ?_
          refine aw_skip ?_
          show AW _ _ _ _ _ _ _
          refine aw_seq_region ?_
          refine sr_mv ?_
          refine sr_rd (x_add' rfl rfl (i64w (by omega) (by omega))) ?_
          refine sr_rd (x_conv' (c := ((d8 (m % 10)).toNat : Int)) Tryd.underlying2 Tryd.underlying5 rfl (by rw [d8_nat (by omega)]; exact (u8w (by omega) (by omega)).trans (by omega))) ?_
          refine sr_new rfl (wtd_none rfl) rfl (x_buildSlice Tryd.underlying23 sz5 zr5 rfl rfl rfl rfl Parts.auto Fill.auto) ?_
          intro r9_3 hr9_3 gr9_3
          refine sr_rd (x_b2s (bs := [d8 (m % 10)]) Tryd.underlying23 Tryd.underlying9 Tryd.underlying5 rfl (cells_ext mauto Ext.auto) rfl) ?_
          refine sr_mv ?_
          refine sr_rd (x_catB rfl rfl (by have : ([d8 (m % 10)] : List UInt8).length = 1 := rfl; omega)) ?_
          refine sr_as ?_
          refine sr_nil ?_
          refine aw_kp [0, 2, 3, 4, 5, 6, 9, 10, 11, 12, 13, 14, 15, 16, 17, 18, 21, 22, 23, 24, 27, 28, 29, 30, 31, 32, 33] ?_
          refine aw_region ?_
          refine sr_mv ?_
          refine sr_rd (x_quo' (c := ((m / 10 : Nat) : Int)) rfl rfl (by omega) (i64w (n := ((m / 10 : Nat) : Int)) (by omega) (by omega))) ?_
          refine sr_as ?_
          refine sr_nil ?_
          show AW _ _ _ _ _ _ _
          refine aw_region ?_
          refine sr_mv ?_
          refine sr_rd (x_add' rfl rfl (i64w (by omega) (by omega))) ?_
          refine sr_as ?_
          refine sr_nil ?_
          show ∃ s', _ ∧ _ ∧ _ ∧ _
          exact ⟨⟨i + 1, m / 10, d8 (m % 10) :: l⟩, ⟨by dsimp only; omega, by dsimp only; rw [List.length_cons, hli], (by dsimp only; intro q; rw [hd1 (by omega), dg_ge (by omega)]; simp), (by dsimp only; intro q; rw [hd1 (by omega), dg_lt (by omega), show m % 10 = m by omega]; rfl), by dsimp only; omega⟩, by dsimp only; omega, KeepF.auto, Sub.autoP⟩
      · refine sr_ry (x_move rfl) ?_
        refine sr_ry (x_move rfl) ?_
        refine sr_cy (x_ne rfl rfl) (fun h10 => ?_) (fun h10 => ?_)
        · refine sr_ry (x_pick_f rfl rfl rfl) ?_
          refine sr_rd (x_pick_t rfl rfl rfl) ?_
          refine sr_nil ?_
          refine aw_kp [0, 2, 3, 4, 5, 9, 10, 11, 12, 13, 14, 15, 16, 17, 18] ?_
          refine aw_true rfl ?_
          refine aw_skip ?_
          show AW _ _ _ _ _ _ _
          refine aw_seq ?_
          refine aw_block ?_
          refine aw_seq_region ?_
          refine sr_mv ?_
          refine sr_rd (x_rem' (c := ((m % 10 : Nat) : Int)) rfl rfl (by omega) (rfl)) ?_
          refine sr_as ?_
          refine sr_nil ?_
          refine aw_kp [0, 2, 3, 4, 5, 6, 9, 10, 11, 12, 13, 14, 15, 16, 17, 18, 21, 22] ?_
          refine aw_seq ?_
          refine aw_seq_region ?_
          refine sr_mv ?_
          refine sr_c (x_lt rfl rfl) (fun h11 => ?_) (fun h11 => ?_)
          · refine sr_nil ?_
            refine aw_kp [0, 2, 3, 4, 5, 6, 9, 10, 11, 12, 13, 14, 15, 16, 17, 18, 21, 22, 23, 24] ?_
            refine aw_true rfl ?_
            refine aw_region ?_
            refine sr_mv ?_
            refine sr_rd (x_neg' (c := ((m % 10 : Nat) : Int)) rfl ((i64w (by omega) (by omega)).trans (by omega))) ?_
            refine sr_as ?_
            refine sr_nil ?_
            show AW _ _ _ _ _ _ _
            refine aw_seq_region ?_
            refine sr_mv ?_
            refine sr_rd (x_add' rfl rfl (i64w (by omega) (by omega))) ?_
            refine sr_rd (x_conv' (c := ((d8 (m % 10)).toNat : Int)) Tryd.underlying2 Tryd.underlying5 rfl (by rw [d8_nat (by omega)]; exact (u8w (by omega) (by omega)).trans (by omega))) ?_
            refine sr_new rfl (wtd_none rfl) rfl (x_buildSlice Tryd.underlying23 sz5 zr5 rfl rfl rfl rfl Parts.auto Fill.auto) ?_
            intro r9_3 hr9_3 gr9_3
            refine sr_rd (x_b2s (bs := [d8 (m % 10)]) Tryd.underlying23 Tryd.underlying9 Tryd.underlying5 rfl (cells_ext mauto Ext.auto) rfl) ?_
            refine sr_mv ?_
            refine sr_rd (x_catB rfl rfl (by have : ([d8 (m % 10)] : List UInt8).length = 1 := rfl; omega)) ?_
            refine sr_as ?_
            refine sr_nil ?_
            refine aw_kp [0, 2, 3, 4, 5, 6, 9, 10, 11, 12, 13, 14, 15, 16, 17, 18, 21, 22, 23, 24, 25, 26, 27, 28, 29, 30, 31, 32, 33] ?_
            refine aw_region ?_
            refine sr_mv ?_
            refine sr_rd (x_quo' (c := ((m / 10 : Nat) : Int)) rfl rfl (by omega) (i64w (n := ((m / 10 : Nat) : Int)) (by omega) (by omega))) ?_
            refine sr_as ?_
            refine sr_nil ?_
            show AW _ _ _ _ _ _ _
            refine aw_region ?_
            refine sr_mv ?_
            refine sr_rd (x_add' rfl rfl (i64w (by omega) (by omega))) ?_
            refine sr_as ?_
            refine sr_nil ?_
            show ∃ s', _ ∧ _ ∧ _ ∧ _
            exact ⟨⟨i + 1, m / 10, d8 (m % 10) :: l⟩, ⟨by dsimp only; omega, by dsimp only; rw [List.length_cons, hli], (by dsimp only; intro q; rw [hd1 (by omega), dg_ge (by omega)]; simp), (by dsimp only; intro q; rw [hd1 (by omega), dg_lt (by omega), show m % 10 = m by omega]; rfl), by dsimp only; omega⟩, by dsimp only; omega, KeepF.auto, Sub.autoP⟩
          · refine sr_nil ?_
            refine aw_kp [0, 2, 3, 4, 5, 6, 9, 10, 11, 12, 13, 14, 15, 16, 17, 18, 21, 22, 23, 24] ?_
            refine aw_false rfl ?_
            refine aw_skip ?_
            show AW _ _ _ _ _ _ _
            refine aw_seq_region ?_
            refine sr_mv ?_
            refine sr_rd (x_add' rfl rfl (i64w (by omega) (by omega))) ?_
            refine sr_rd (x_conv' (c := ((d8 (m % 10)).toNat : Int)) Tryd.underlying2 Tryd.underlying5 rfl (by rw [d8_nat (by omega)]; exact (u8w (by omega) (by omega)).trans (by omega))) ?_
            refine sr_new rfl (wtd_none rfl) rfl (x_buildSlice Tryd.underlying23 sz5 zr5 rfl rfl rfl rfl Parts.auto Fill.auto) ?_
            intro r9_3 hr9_3 gr9_3
            refine sr_rd (x_b2s (bs := [d8 (m % 10)]) Tryd.underlying23 Tryd.underlying9 Tryd.underlying5 rfl (cells_ext mauto Ext.auto) rfl) ?_
            refine sr_mv ?_
            refine sr_rd (x_catB rfl rfl (by have : ([d8 (m % 10)] : List UInt8).length = 1 := rfl; omega)) ?_
            refine sr_as ?_
            refine sr_nil ?_
            refine aw_kp [0, 2, 3, 4, 5, 6, 9, 10, 11, 12, 13, 14, 15, 16, 17, 18, 21, 22, 23, 24, 27, 28, 29, 30, 31, 32, 33] ?_
            refine aw_region ?_
            refine sr_mv ?_
            refine sr_rd (x_quo' (c := ((m / 10 : Nat) : Int)) rfl rfl (by omega) (i64w (n := ((m / 10 : Nat) : Int)) (by omega) (by omega))) ?_
            refine sr_as ?_
            refine sr_nil ?_
            show AW _ _ _ _ _ _ _
            refine aw_region ?_
            refine sr_mv ?_
            refine sr_rd (x_add' rfl rfl (i64w (by omega) (by omega))) ?_
            refine sr_as ?_
            refine sr_nil ?_
            show ∃ s', _ ∧ _ ∧ _ ∧ _
            exact ⟨⟨i + 1, m / 10, d8 (m % 10) :: l⟩, ⟨by dsimp only; omega, by dsimp only; rw [List.length_cons, hli], (by dsimp only; intro q; rw [hd1 (by omega), dg_ge (by omega)]; simp), (by dsimp only; intro q; rw [hd1 (by omega), dg_lt (by omega), show m % 10 = m by omega]; rfl), by dsimp only; omega⟩, by dsimp only; omega, KeepF.auto, Sub.autoP⟩
        · refine sr_ry (x_pick_f rfl rfl rfl) ?_
          refine sr_rd (x_pick_t rfl rfl rfl) ?_
          refine sr_nil ?_
          refine aw_kp [0, 2, 3, 4, 5, 9, 10, 11, 12, 13, 14, 15, 16, 17, 18] ?_
          refine aw_false rfl ?_
          refine aw_exit ?_
          show AW _ _ _ _ _ _ _
          refine aw_seq ?_
          refine aw_seq_region ?_
          refine sr_mv ?_
          refine sr_nil ?_
          refine aw_kp [2, 3, 36] ?_
          refine aw_false rfl ?_
          refine aw_skip ?_
          show AW _ _ _ _ _ _ _
          refine aw_seq_region ?_
          refine sr_mv ?_
          refine sr_as ?_
          refine sr_nil ?_
          refine aw_kp [2] ?_
          refine aw_ret ?_
          show ∃ v H2, ResV _ _ _ _ _ _ v ∧ Sub H2 _ ∧ _
          exact ⟨_, H, resV rfl (.cons rfl .nil), Sub.autoP, ⟨by have e9 := fin_dg hd1 hd2 hli hdm (by omega); rw [← e9]; unfold numB; first | (rw [if_pos (by omega), show (-n).toNat = n.natAbs by omega]; rfl) | (rw [if_neg (by omega), show n.toNat = n.natAbs by omega]; rfl), rfl⟩⟩
    · refine sr_mv ?_
      refine sr_sk ?_
      refine sr_sk ?_
      refine sr_sk ?_
      refine sr_skip rfl (wtd_un rfl rfl rfl) rfl ?_
      refine sr_skip rfl (wtd_un rfl rfl rfl) rfl ?_
      refine sr_sk ?_
      refine sr_rd (x_pick_f rfl rfl rfl) ?_
      refine sr_nil ?_
      refine aw_kp [0, 2, 3, 4, 5, 9, 10, 11, 12, 13, 14, 15, 16, 17, 18] ?_
      refine aw_false rfl ?_
      refine aw_exit ?_
      show AW _ _ _ _ _ _ _
      refine aw_seq ?_
      refine aw_seq_region ?_
      refine sr_mv ?_
      refine sr_nil ?_
      refine aw_kp [2, 3, 36] ?_
      refine aw_false rfl ?_
      refine aw_skip ?_
      show AW _ _ _ _ _ _ _
      refine aw_seq_region ?_
      refine sr_mv ?_
      refine sr_as ?_
      refine sr_nil ?_
      refine aw_kp [2] ?_
      refine aw_ret ?_
      show ∃ v H2, ResV _ _ _ _ _ _ v ∧ Sub H2 _ ∧ _
      exact ⟨_, H, resV rfl (.cons rfl .nil), Sub.autoP, ⟨by have e9 := fin_dg hd1 hd2 hli hdm (by omega); rw [← e9]; unfold numB; first | (rw [if_pos (by omega), show (-n).toNat = n.natAbs by omega]; rfl) | (rw [if_neg (by omega), show n.toNat = n.natAbs by omega]; rfl), rfl⟩⟩
set_option maxRecDepth 100000 in
set_option maxHeartbeats 400000 in
theorem hasp_s (l p : List UInt8) (H : SHeap) : AC Tryd.prog W0 75 [.string (bs l), .string (bs p)] H (fun v H' => (∃ c : Bool, v = .bool c ∧ (c = true ↔ p.length ≤ l.length ∧ l.take p.length = p)) ∧ H' = H) := by
  refine ac_of Tryd.func75 rfl rfl rfl ?_
  refine aw_seq_region ?_
  refine sr_as ?_
  refine sr_nil ?_
  refine aw_kp [0, 1, 4] ?_
  refine aw_seq_region ?_
  refine sr_mv ?_
  refine sr_rd (x_lenB Tryd.underlying9 rfl) ?_
  refine sr_mv ?_
  refine sr_rd (x_lenB Tryd.underlying9 rfl) ?_
  refine sr_c (x_ge rfl rfl) (fun h1 => ?_) (fun h1 => ?_)
  · refine sr_mv ?_
    refine sr_ry (x_move rfl) ?_
    refine sr_ry (x_move rfl) ?_
    refine sr_ry (x_lenB Tryd.underlying9 rfl) ?_
    refine sr_ry (x_sliceHiB (p.length) Tryd.underlying9 rfl rfl (by first | rfl | omega) (by omega)) ?_
    refine sr_ry (x_move rfl) ?_
    refine sr_cy (x_eqB rfl rfl) (fun h2 => ?_) (fun h2 => ?_)
    · refine sr_rd (x_pick_t rfl rfl rfl) ?_
      refine sr_as ?_
      refine sr_nil ?_
      refine aw_kp [4] ?_
      refine aw_ret ?_
      show ∃ v H2, ResV _ _ _ _ _ _ v ∧ Sub H2 _ ∧ _
      exact ⟨_, H, resV rfl (.cons rfl .nil), (by repeat (first | exact Sub.refl _ | apply Sub.drop)), (by first | exact ⟨⟨_, rfl, by simp; omega⟩, rfl⟩ | exact ⟨⟨_, rfl, by simp; intro; assumption⟩, rfl⟩ | exact ⟨⟨_, rfl, by simp; exact ⟨by omega, by assumption⟩⟩, rfl⟩)⟩
    · refine sr_rd (x_pick_t rfl rfl rfl) ?_
      refine sr_as ?_
      refine sr_nil ?_
      refine aw_kp [4] ?_
      refine aw_ret ?_
      show ∃ v H2, ResV _ _ _ _ _ _ v ∧ Sub H2 _ ∧ _
      exact ⟨_, H, resV rfl (.cons rfl .nil), (by repeat (first | exact Sub.refl _ | apply Sub.drop)), (by first | exact ⟨⟨_, rfl, by simp; omega⟩, rfl⟩ | exact ⟨⟨_, rfl, by simp; intro; assumption⟩, rfl⟩ | exact ⟨⟨_, rfl, by simp; exact ⟨by omega, by assumption⟩⟩, rfl⟩)⟩
  · refine sr_mv ?_
    refine sr_sk ?_
    refine sr_sk ?_
    refine sr_sk ?_
    refine sr_sk ?_
    refine sr_sk ?_
    refine sr_sk ?_
    refine sr_rd (x_pick_f rfl rfl rfl) ?_
    refine sr_as ?_
    refine sr_nil ?_
    refine aw_kp [4] ?_
    refine aw_ret ?_
    show ∃ v H2, ResV _ _ _ _ _ _ v ∧ Sub H2 _ ∧ _
    exact ⟨_, H, resV rfl (.cons rfl .nil), (by repeat (first | exact Sub.refl _ | apply Sub.drop)), (by first | exact ⟨⟨_, rfl, by simp; omega⟩, rfl⟩ | exact ⟨⟨_, rfl, by simp; intro; assumption⟩, rfl⟩ | exact ⟨⟨_, rfl, by simp; exact ⟨by omega, by assumption⟩⟩, rfl⟩)⟩
set_option maxRecDepth 100000 in
set_option maxHeartbeats 400000 in
theorem cutp0_s (l p : List UInt8) (H : SHeap) : AC Tryd.prog W0 77 [.string (bs l), .string (bs p)] H (fun v H' => ((¬ (p.length ≤ l.length ∧ l.take p.length = p) ∧ v = .tuple #[.string (bs l), .bool false]) ∨ ((p.length ≤ l.length ∧ l.take p.length = p) ∧ v = .tuple #[.string (bs (l.drop p.length)), .bool true])) ∧ H' = H) := by
  refine ac_of Tryd.func77 rfl rfl rfl ?_
  refine aw_seq_region ?_
  refine sr_as ?_
  refine sr_as ?_
  refine sr_nil ?_
  refine aw_kp [0, 1, 4, 5] ?_
  refine aw_seq ?_
  refine aw_seq_region ?_
  refine sr_mv ?_
  refine sr_mv ?_
  refine sr_d rfl (wtd_none rfl) rfl (opS_call rfl rfl rfl rfl cl75 (hasp_s _ _ _)) ?_
  rintro _ H ⟨⟨c, rfl, hc⟩, rfl⟩
  cases c
  · refine sr_rd (x_not rfl) ?_
    refine sr_nil ?_
    refine aw_kp [0, 1, 4, 5, 9] ?_
    refine aw_true rfl ?_
    refine aw_seq_region ?_
    refine sr_mv ?_
    refine sr_as ?_
    refine sr_as ?_
    refine sr_nil ?_
    refine aw_kp [0, 1, 4, 5] ?_
    refine aw_ret ?_
    show ∃ v H2, ResV _ _ _ _ _ _ v ∧ Sub H2 _ ∧ _
    exact ⟨_, H, resV rfl (.cons rfl (.cons rfl .nil)), (by repeat (first | exact Sub.refl _ | apply Sub.drop)), (by first | exact ⟨.inl ⟨fun h => (nomatch hc.2 h), rfl⟩, rfl⟩ | exact ⟨.inr ⟨hc.1 rfl, rfl⟩, rfl⟩)⟩
  · refine sr_rd (x_not rfl) ?_
    refine sr_nil ?_
    refine aw_kp [0, 1, 4, 5, 9] ?_
    refine aw_false rfl ?_
    refine aw_skip ?_
    show AW _ _ _ _ _ _ _
    refine aw_seq_region ?_
    refine sr_mv ?_
    refine sr_mv ?_
    refine sr_rd (x_lenB Tryd.underlying9 rfl) ?_
    refine sr_rd (x_sliceLoB (p.length) Tryd.underlying9 rfl rfl (by first | rfl | omega) (hc.1 rfl).1) ?_
    refine sr_as ?_
    refine sr_as ?_
    refine sr_nil ?_
    refine aw_kp [4, 5] ?_
    refine aw_ret ?_
    show ∃ v H2, ResV _ _ _ _ _ _ v ∧ Sub H2 _ ∧ _
    exact ⟨_, H, resV rfl (.cons rfl (.cons rfl .nil)), (by repeat (first | exact Sub.refl _ | apply Sub.drop)), (by first | exact ⟨.inl ⟨fun h => (nomatch hc.2 h), rfl⟩, rfl⟩ | exact ⟨.inr ⟨hc.1 rfl, rfl⟩, rfl⟩)⟩
set_option maxRecDepth 100000 in
set_option maxHeartbeats 400000 in
theorem cutp_s (l p : List UInt8) (H : SHeap) : AC Tryd.prog W0 57 [.string (bs l), .string (bs p)] H (fun v H' => ((¬ (p.length ≤ l.length ∧ l.take p.length = p) ∧ v = .tuple #[.string (bs l), .bool false]) ∨ ((p.length ≤ l.length ∧ l.take p.length = p) ∧ v = .tuple #[.string (bs (l.drop p.length)), .bool true])) ∧ H' = H) := by
  refine ac_of Tryd.func57 rfl rfl rfl ?_
  refine aw_seq_region ?_
  refine sr_as ?_
  refine sr_as ?_
  refine sr_nil ?_
  refine aw_kp [0, 1, 4, 5] ?_
  refine aw_seq_region ?_
  refine sr_mv ?_
  refine sr_mv ?_
  refine sr_d rfl (wtd_none rfl) rfl (opS_call rfl rfl rfl rfl cl77 (cutp0_s _ _ _)) ?_
  rintro _ H ⟨hcp, rfl⟩
  obtain ⟨hq, rfl⟩ | ⟨hq, rfl⟩ := hcp
  · refine sr_rd (x_extract rfl rfl) ?_
    refine sr_rd (x_extract rfl rfl) ?_
    refine sr_as ?_
    refine sr_as ?_
    refine sr_nil ?_
    refine aw_kp [4, 5] ?_
    refine aw_ret ?_
    show ∃ v H2, ResV _ _ _ _ _ _ v ∧ Sub H2 _ ∧ _
    exact ⟨_, H, resV rfl (.cons rfl (.cons rfl .nil)), (by repeat (first | exact Sub.refl _ | apply Sub.drop)), (by first | exact ⟨.inl ⟨hq, rfl⟩, rfl⟩ | exact ⟨.inr ⟨hq, rfl⟩, rfl⟩)⟩
  · refine sr_rd (x_extract rfl rfl) ?_
    refine sr_rd (x_extract rfl rfl) ?_
    refine sr_as ?_
    refine sr_as ?_
    refine sr_nil ?_
    refine aw_kp [4, 5] ?_
    refine aw_ret ?_
    show ∃ v H2, ResV _ _ _ _ _ _ v ∧ Sub H2 _ ∧ _
    exact ⟨_, H, resV rfl (.cons rfl (.cons rfl .nil)), (by repeat (first | exact Sub.refl _ | apply Sub.drop)), (by first | exact ⟨.inl ⟨hq, rfl⟩, rfl⟩ | exact ⟨.inr ⟨hq, rfl⟩, rfl⟩)⟩
set_option maxRecDepth 100000 in
set_option maxHeartbeats 1000000 in
theorem read_s (l0 : List UInt8) (H : SHeap) (hl0 : l0.length ≤ 9223372036854775807) : AC Tryd.prog W0 26 [.string (bs l0)] H (fun v H' => v = .tuple #[.int .i64 ((readN l0).getD 0), .bool (readN l0).isSome] ∧ H' = H) := by
  refine ac_of Tryd.func26 rfl rfl rfl ?_
  refine aw_seq_region ?_
  refine sr_as ?_
  refine sr_as ?_
  refine sr_nil ?_
  refine aw_kp [0, 2, 3] ?_
  refine aw_seq_region ?_
  refine sr_mv ?_
  refine sr_d rfl (wtd_none rfl) rfl (opS_call rfl rfl rfl rfl cl57 (cutp_s l0 [45] _)) ?_
  rintro _ H ⟨hcp, rfl⟩
  obtain ⟨hq, rfl⟩ | ⟨hq, rfl⟩ := hcp
  · have hrd : readN l0 = rdD false l0 := readN_no hq
    have hl : l0.length ≤ 9223372036854775807 := hl0
    clear hq hl0
    obtain ⟨l, rfl⟩ : ∃ l, l = l0 := ⟨_, rfl⟩
    refine sr_mv ?_
    refine sr_rd (x_extract rfl rfl) ?_
    refine sr_rd (x_extract rfl rfl) ?_
    refine sr_as ?_
    refine sr_as ?_
    refine sr_nil ?_
    refine aw_kp [2, 3, 4, 5] ?_
    refine aw_seq ?_
    refine aw_seq_region ?_
    refine sr_mv ?_
    refine sr_c (x_eqB rfl rfl) (fun h1 => ?_) (fun h1 => ?_)
    · refine sr_mv ?_
      refine sr_sk ?_
      refine sr_sk ?_
      refine sr_sk ?_
      refine sr_rd (x_pick_t rfl rfl rfl) ?_
      refine sr_mv ?_
      refine sr_sk ?_
      refine sr_sk ?_
      refine sr_sk ?_
      refine sr_sk ?_
      refine sr_skip rfl (wtd_un rfl rfl rfl) rfl ?_
      refine sr_skip rfl (wtd_un rfl rfl rfl) rfl ?_
      refine sr_skip rfl (wtd_un rfl rfl rfl) rfl ?_
      refine sr_skip rfl (wtd_un rfl rfl rfl) rfl ?_
      refine sr_skip rfl (wtd_un rfl rfl rfl) rfl ?_
      refine sr_skip rfl (wtd_un rfl rfl rfl) rfl ?_
      refine sr_sk ?_
      refine sr_rd (x_pick_t rfl rfl rfl) ?_
      refine sr_nil ?_
      refine aw_kp [2, 3, 4, 5, 33] ?_
      refine aw_true rfl ?_
      refine aw_seq_region ?_
      refine sr_as ?_
      refine sr_as ?_
      refine sr_nil ?_
      refine aw_kp [2, 3, 4, 5] ?_
      refine aw_ret ?_
      show ∃ v H2, ResV _ _ _ _ _ _ v ∧ Sub H2 _ ∧ _
      exact ⟨_, H, resV rfl (.cons rfl (.cons rfl .nil)), (by repeat (first | exact Sub.refl _ | apply Sub.drop)), (by first | exact ⟨by rw [hrd, rdA (neg := false) (by first | exact .inl (by assumption) | exact .inr (.inl (by omega)) | exact .inr (.inr ⟨by rw [List.head?_eq_getElem?, hc0]; exact congrArg some (by omega), by first | exact .inl (by omega) | exact .inr rfl⟩))]; rfl, rfl⟩ | exact ⟨by rw [hrd, rdB (neg := false) ⟨x, List.mem_of_getElem? hx, fun q => by have := (u8dig x).2 q; omega⟩]; rfl, rfl⟩ | exact ⟨by rw [hrd, rdPT hf hall (by omega)]; rfl, rfl⟩ | exact ⟨by rw [hrd, rdPF hf hall (by omega)]; rfl, rfl⟩)⟩
    · refine sr_mv ?_
      refine sr_ry (x_move rfl) ?_
      refine sr_ry (x_lenB Tryd.underlying9 rfl) ?_
      refine sr_cy (x_gt rfl rfl) (fun h2 => ?_) (fun h2 => ?_)
      · refine sr_rd (x_pick_f rfl rfl rfl) ?_
        refine sr_mv ?_
        refine sr_sk ?_
        refine sr_sk ?_
        refine sr_sk ?_
        refine sr_sk ?_
        refine sr_skip rfl (wtd_un rfl rfl rfl) rfl ?_
        refine sr_skip rfl (wtd_un rfl rfl rfl) rfl ?_
        refine sr_skip rfl (wtd_un rfl rfl rfl) rfl ?_
        refine sr_skip rfl (wtd_un rfl rfl rfl) rfl ?_
        refine sr_skip rfl (wtd_un rfl rfl rfl) rfl ?_
        refine sr_skip rfl (wtd_un rfl rfl rfl) rfl ?_
        refine sr_sk ?_
        refine sr_rd (x_pick_t rfl rfl rfl) ?_
        refine sr_nil ?_
        refine aw_kp [2, 3, 4, 5, 33] ?_
        refine aw_true rfl ?_
        refine aw_seq_region ?_
        refine sr_as ?_
        refine sr_as ?_
        refine sr_nil ?_
        refine aw_kp [2, 3, 4, 5] ?_
        refine aw_ret ?_
        show ∃ v H2, ResV _ _ _ _ _ _ v ∧ Sub H2 _ ∧ _
        exact ⟨_, H, resV rfl (.cons rfl (.cons rfl .nil)), (by repeat (first | exact Sub.refl _ | apply Sub.drop)), (by first | exact ⟨by rw [hrd, rdA (neg := false) (by first | exact .inl (by assumption) | exact .inr (.inl (by omega)) | exact .inr (.inr ⟨by rw [List.head?_eq_getElem?, hc0]; exact congrArg some (by omega), by first | exact .inl (by omega) | exact .inr rfl⟩))]; rfl, rfl⟩ | exact ⟨by rw [hrd, rdB (neg := false) ⟨x, List.mem_of_getElem? hx, fun q => by have := (u8dig x).2 q; omega⟩]; rfl, rfl⟩ | exact ⟨by rw [hrd, rdPT hf hall (by omega)]; rfl, rfl⟩ | exact ⟨by rw [hrd, rdPF hf hall (by omega)]; rfl, rfl⟩)⟩
      · refine sr_rd (x_pick_f rfl rfl rfl) ?_
        refine sr_mv ?_
        refine sr_ry (x_move rfl) ?_
        obtain ⟨c0, hc0⟩ := get_ex (show 0 < l.length from List.length_pos_iff.2 (by assumption))
        refine sr_ry (x_indexB 0 Tryd.underlying9 rfl rfl (by first | rfl | omega) hc0) ?_
        refine sr_cy (x_eq rfl rfl) (fun h3 => ?_) (fun h3 => ?_)
        · refine sr_ry (x_move rfl) ?_
          refine sr_ry (x_move rfl) ?_
          refine sr_ry (x_lenB Tryd.underlying9 rfl) ?_
          refine sr_cy (x_gt rfl rfl) (fun h4 => ?_) (fun h4 => ?_)
          · refine sr_ry (x_move rfl) ?_
            refine sr_sk ?_
            refine sr_ry (x_pick_t rfl rfl rfl) ?_
            refine sr_ry (x_pick_t rfl rfl rfl) ?_
            refine sr_rd (x_pick_f rfl rfl rfl) ?_
            refine sr_nil ?_
            refine aw_kp [2, 3, 4, 5, 33] ?_
            refine aw_true rfl ?_
            refine aw_seq_region ?_
            refine sr_as ?_
            refine sr_as ?_
            refine sr_nil ?_
            refine aw_kp [2, 3, 4, 5] ?_
            refine aw_ret ?_
            show ∃ v H2, ResV _ _ _ _ _ _ v ∧ Sub H2 _ ∧ _
            exact ⟨_, H, resV rfl (.cons rfl (.cons rfl .nil)), (by repeat (first | exact Sub.refl _ | apply Sub.drop)), (by first | exact ⟨by rw [hrd, rdA (neg := false) (by first | exact .inl (by assumption) | exact .inr (.inl (by omega)) | exact .inr (.inr ⟨by rw [List.head?_eq_getElem?, hc0]; exact congrArg some (by omega), by first | exact .inl (by omega) | exact .inr rfl⟩))]; rfl, rfl⟩ | exact ⟨by rw [hrd, rdB (neg := false) ⟨x, List.mem_of_getElem? hx, fun q => by have := (u8dig x).2 q; omega⟩]; rfl, rfl⟩ | exact ⟨by rw [hrd, rdPT hf hall (by omega)]; rfl, rfl⟩ | exact ⟨by rw [hrd, rdPF hf hall (by omega)]; rfl, rfl⟩)⟩
          · refine sr_ry (x_move rfl) ?_
            refine sr_ry (x_move rfl) ?_
            refine sr_ry (x_pick_f rfl rfl rfl) ?_
            refine sr_ry (x_pick_t rfl rfl rfl) ?_
            refine sr_rd (x_pick_f rfl rfl rfl) ?_
            refine sr_nil ?_
            refine aw_kp [2, 3, 4, 5, 33] ?_
            refine aw_false rfl ?_
            refine aw_skip ?_
            show AW _ _ _ _ _ _ _
            refine aw_seq_region ?_
            have hf : ¬ (l = [] ∨ 19 < l.length ∨ (l.head?.map UInt8.toNat = some 48 ∧ (1 < l.length ∨ false = true))) := by
              rintro (q | q | ⟨q, r⟩)
              · exact absurd q (by assumption)
              · omega
              · rw [List.head?_eq_getElem?, hc0] at q
                have q2 : c0.toNat = 48 := by simpa using q
                rcases r with r | r
                · omega
                · first | omega | cases r
            refine sr_as ?_
            refine sr_nil ?_
            refine aw_kp [2, 3, 4, 5, 6] ?_
            refine aw_seq ?_
            refine aw_seq_region ?_
            refine sr_mv ?_
            refine sr_rd (x_lenB Tryd.underlying9 rfl) ?_
            refine sr_mv ?_
            refine sr_nil ?_
            refine aw_kp [2, 3, 4, 5, 6, 35, 36] ?_
            refine aw_block ?_
            refine aw_loop (ι := Nat) (fun k => k ≤ l.length ∧ (∀ c ∈ l.take k, isD c)) (fun k => [(2, .int .i64 0), (3, .bool false), (4, .string (bs l)), (5, .bool false), (6, .int .u64 ((vlD (l.take k) : Nat) : Int)), (35, .int .i64 l.length), (36, .int .i64 k)]) (fun _ => H) (fun k => l.length - k) 0 (⟨Nat.zero_le _, by simp⟩) KeepF.auto (by repeat (first | exact Sub.refl _ | apply Sub.drop)) ?_
            intro k hk9
            obtain ⟨hk, hall⟩ := hk9
            have hvl := vlD_lt19 hall (by rw [List.length_take]; omega)
            refine aw_seq_region ?_
            refine sr_c (x_lt rfl rfl) (fun h5 => ?_) (fun h5 => ?_)
            · refine sr_nil ?_
              refine aw_kp [2, 3, 4, 5, 6, 35, 36, 37] ?_
              refine aw_seq ?_
              refine aw_true rfl ?_
              refine aw_skip ?_
              show AW _ _ _ _ _ _ _
              refine aw_seq ?_
              refine aw_block ?_
              refine aw_seq_region ?_
              refine sr_mv ?_
              refine sr_as ?_
              refine sr_nil ?_
              refine aw_kp [2, 3, 4, 5, 6, 7, 35, 36, 37, 38] ?_
              refine aw_seq_region ?_
              obtain ⟨x, hx⟩ := get_ex (show k < l.length by omega)
              refine sr_mv ?_
              refine sr_mv ?_
              refine sr_rd (x_indexB k Tryd.underlying9 rfl rfl (by first | rfl | omega) hx) ?_
              refine sr_rd (x_sub' (c := (((x.toNat + 208) % 256 : Nat) : Int)) rfl rfl (u8sub x)) ?_
              refine sr_as ?_
              refine sr_nil ?_
              refine aw_kp [2, 3, 4, 5, 6, 7, 8, 35, 36, 37, 38, 39, 40, 41, 42] ?_
              refine aw_seq ?_
              refine aw_seq_region ?_
              refine sr_mv ?_
              refine sr_c (x_gt rfl rfl) (fun h6 => ?_) (fun h6 => ?_)
              · refine sr_nil ?_
                refine aw_kp [2, 3, 4, 5, 6, 7, 8, 35, 36, 37, 38, 39, 40, 41, 42, 43, 44] ?_
                refine aw_true rfl ?_
                refine aw_seq_region ?_
                refine sr_as ?_
                refine sr_as ?_
                refine sr_nil ?_
                refine aw_kp [2, 3, 4, 5, 6, 7, 8, 35, 36, 37, 38, 39, 40, 41, 42, 43, 44] ?_
                refine aw_ret ?_
                show ∃ v H2, ResV _ _ _ _ _ _ v ∧ Sub H2 _ ∧ _
                exact ⟨_, H, resV rfl (.cons rfl (.cons rfl .nil)), (by repeat (first | exact Sub.refl _ | apply Sub.drop)), (by first | exact ⟨by rw [hrd, rdA (neg := false) (by first | exact .inl (by assumption) | exact .inr (.inl (by omega)) | exact .inr (.inr ⟨by rw [List.head?_eq_getElem?, hc0]; exact congrArg some (by omega), by first | exact .inl (by omega) | exact .inr rfl⟩))]; rfl, rfl⟩ | exact ⟨by rw [hrd, rdB (neg := false) ⟨x, List.mem_of_getElem? hx, fun q => by have := (u8dig x).2 q; omega⟩]; rfl, rfl⟩ | exact ⟨by rw [hrd, rdPT hf hall (by omega)]; rfl, rfl⟩ | exact ⟨by rw [hrd, rdPF hf hall (by omega)]; rfl, rfl⟩)⟩
              · refine sr_nil ?_
                refine aw_kp [2, 3, 4, 5, 6, 7, 8, 35, 36, 37, 38, 39, 40, 41, 42, 43, 44] ?_
                refine aw_false rfl ?_
                refine aw_skip ?_
                show AW _ _ _ _ _ _ _
                refine aw_region ?_
                have hxd : isD x := (u8dig x).1 (by omega)
                have hxd2 : 48 ≤ x.toNat ∧ x.toNat ≤ 57 := hxd
                have hv18 := vlD_lt18 hall (by rw [List.length_take]; omega)
                refine sr_mv ?_
                refine sr_rd (x_mul' rfl rfl (u64w (by omega) (by omega))) ?_
                refine sr_mv ?_
                refine sr_rd (x_conv' Tryd.underlying5 Tryd.underlying95 rfl (u64w (by omega) (by omega))) ?_
                refine sr_rd (x_add' rfl rfl (u64w (by omega) (by omega))) ?_
                refine sr_as ?_
                refine sr_nil ?_
                show AW _ _ _ _ _ _ _
                refine aw_region ?_
                refine sr_rd (x_add' rfl rfl (i64w (by omega) (by omega))) ?_
                refine sr_mv ?_
                refine sr_nil ?_
                show ∃ s', _ ∧ _ ∧ _ ∧ _
                exact ⟨k + 1, ⟨by omega, (by rw [takeS hx]; intro y hy; rw [List.mem_append] at hy; rcases hy with hy | hy; exact hall y hy; rw [List.mem_singleton] at hy; rw [hy]; exact hxd)⟩, by omega, (by rw [takeS hx, vlD_snoc]; (repeat (first | exact keep_nil | refine keep_cons (by first | rfl | exact congrArg (fun z => some (Value.int .u64 z)) (by omega)) ?_)); first | done | fail), (by repeat (first | exact Sub.refl _ | apply Sub.drop))⟩
            · refine sr_nil ?_
              refine aw_kp [2, 3, 4, 5, 6, 35, 36, 37] ?_
              refine aw_seq ?_
              refine aw_false rfl ?_
              refine aw_exit ?_
              show AW _ _ _ _ _ _ _
              refine aw_seq ?_
              refine aw_block ?_
              refine aw_seq_region ?_
              have ek : l.take k = l := List.take_of_length_le (by omega)
              rw [ek] at hall hvl ⊢
              refine sr_mv ?_
              refine sr_mv ?_
              refine sr_sk ?_
              refine sr_sk ?_
              refine sr_rd (x_pick_f rfl rfl rfl) ?_
              refine sr_as ?_
              refine sr_nil ?_
              refine aw_kp [2, 3, 5, 6, 51] ?_
              refine aw_false rfl ?_
              refine aw_seq_region ?_
              refine sr_mv ?_
              refine sr_rd (x_not rfl) ?_
              refine sr_mv ?_
              refine sr_ry (x_move rfl) ?_
              refine sr_cy (x_lt rfl rfl) (fun h7 => ?_) (fun h7 => ?_)
              · refine sr_rd (x_pick_t rfl rfl rfl) ?_
                refine sr_as ?_
                refine sr_nil ?_
                refine aw_kp [2, 3, 6, 60] ?_
                refine aw_true rfl ?_
                refine aw_seq_region ?_
                refine sr_mv ?_
                refine sr_rd (x_conv' Tryd.underlying95 Tryd.underlying2 rfl (i64w (by omega) (by omega))) ?_
                refine sr_as ?_
                refine sr_as ?_
                refine sr_nil ?_
                refine aw_kp [2, 3] ?_
                refine aw_ret ?_
                show ∃ v H2, ResV _ _ _ _ _ _ v ∧ Sub H2 _ ∧ _
                exact ⟨_, H, resV rfl (.cons rfl (.cons rfl .nil)), (by repeat (first | exact Sub.refl _ | apply Sub.drop)), (by first | exact ⟨by rw [hrd, rdA (neg := false) (by first | exact .inl (by assumption) | exact .inr (.inl (by omega)) | exact .inr (.inr ⟨by rw [List.head?_eq_getElem?, hc0]; exact congrArg some (by omega), by first | exact .inl (by omega) | exact .inr rfl⟩))]; rfl, rfl⟩ | exact ⟨by rw [hrd, rdB (neg := false) ⟨x, List.mem_of_getElem? hx, fun q => by have := (u8dig x).2 q; omega⟩]; rfl, rfl⟩ | exact ⟨by rw [hrd, rdPT hf hall (by omega)]; rfl, rfl⟩ | exact ⟨by rw [hrd, rdPF hf hall (by omega)]; rfl, rfl⟩)⟩
              · refine sr_rd (x_pick_t rfl rfl rfl) ?_
                refine sr_as ?_
                refine sr_nil ?_
                refine aw_kp [2, 3, 6, 60] ?_
                refine aw_false rfl ?_
                refine aw_skip ?_
                show AW _ _ _ _ _ _ _
                refine aw_seq_region ?_
                refine sr_as ?_
                refine sr_as ?_
                refine sr_nil ?_
                refine aw_kp [2, 3] ?_
                refine aw_ret ?_
                show ∃ v H2, ResV _ _ _ _ _ _ v ∧ Sub H2 _ ∧ _
                exact ⟨_, H, resV rfl (.cons rfl (.cons rfl .nil)), (by repeat (first | exact Sub.refl _ | apply Sub.drop)), (by first | exact ⟨by rw [hrd, rdA (neg := false) (by first | exact .inl (by assumption) | exact .inr (.inl (by omega)) | exact .inr (.inr ⟨by rw [List.head?_eq_getElem?, hc0]; exact congrArg some (by omega), by first | exact .inl (by omega) | exact .inr rfl⟩))]; rfl, rfl⟩ | exact ⟨by rw [hrd, rdB (neg := false) ⟨x, List.mem_of_getElem? hx, fun q => by have := (u8dig x).2 q; omega⟩]; rfl, rfl⟩ | exact ⟨by rw [hrd, rdPT hf hall (by omega)]; rfl, rfl⟩ | exact ⟨by rw [hrd, rdPF hf hall (by omega)]; rfl, rfl⟩)⟩
        · refine sr_ry (x_move rfl) ?_
          refine sr_sk ?_
          refine sr_sk ?_
          refine sr_sk ?_
          refine sr_sk ?_
          refine sr_skip rfl (wtd_un rfl rfl rfl) rfl ?_
          refine sr_sk ?_
          refine sr_ry (x_pick_f rfl rfl rfl) ?_
          refine sr_rd (x_pick_f rfl rfl rfl) ?_
          refine sr_nil ?_
          refine aw_kp [2, 3, 4, 5, 33] ?_
          refine aw_false rfl ?_
          refine aw_skip ?_
          show AW _ _ _ _ _ _ _
          refine aw_seq_region ?_
          have hf : ¬ (l = [] ∨ 19 < l.length ∨ (l.head?.map UInt8.toNat = some 48 ∧ (1 < l.length ∨ false = true))) := by
            rintro (q | q | ⟨q, r⟩)
            · exact absurd q (by assumption)
            · omega
            · rw [List.head?_eq_getElem?, hc0] at q
              have q2 : c0.toNat = 48 := by simpa using q
              rcases r with r | r
              · omega
              · first | omega | cases r
          refine sr_as ?_
          refine sr_nil ?_
          refine aw_kp [2, 3, 4, 5, 6] ?_
          refine aw_seq ?_
          refine aw_seq_region ?_
          refine sr_mv ?_
          refine sr_rd (x_lenB Tryd.underlying9 rfl) ?_
          refine sr_mv ?_
          refine sr_nil ?_
          refine aw_kp [2, 3, 4, 5, 6, 35, 36] ?_
          refine aw_block ?_
          refine aw_loop (ι := Nat) (fun k => k ≤ l.length ∧ (∀ c ∈ l.take k, isD c)) (fun k => [(2, .int .i64 0), (3, .bool false), (4, .string (bs l)), (5, .bool false), (6, .int .u64 ((vlD (l.take k) : Nat) : Int)), (35, .int .i64 l.length), (36, .int .i64 k)]) (fun _ => H) (fun k => l.length - k) 0 (⟨Nat.zero_le _, by simp⟩) KeepF.auto (by repeat (first | exact Sub.refl _ | apply Sub.drop)) ?_
          intro k hk9
          obtain ⟨hk, hall⟩ := hk9
          have hvl := vlD_lt19 hall (by rw [List.length_take]; omega)
          refine aw_seq_region ?_
          refine sr_c (x_lt rfl rfl) (fun h8 => ?_) (fun h8 => ?_)
          · refine sr_nil ?_
            refine aw_kp [2, 3, 4, 5, 6, 35, 36, 37] ?_
            refine aw_seq ?_
            refine aw_true rfl ?_
            refine aw_skip ?_
            show AW _ _ _ _ _ _ _
            refine aw_seq ?_
            refine aw_block ?_
            refine aw_seq_region ?_
            refine sr_mv ?_
            refine sr_as ?_
            refine sr_nil ?_
            refine aw_kp [2, 3, 4, 5, 6, 7, 35, 36, 37, 38] ?_
            refine aw_seq_region ?_
            obtain ⟨x, hx⟩ := get_ex (show k < l.length by omega)
            refine sr_mv ?_
            refine sr_mv ?_
            refine sr_rd (x_indexB k Tryd.underlying9 rfl rfl (by first | rfl | omega) hx) ?_
            refine sr_rd (x_sub' (c := (((x.toNat + 208) % 256 : Nat) : Int)) rfl rfl (u8sub x)) ?_
            refine sr_as ?_
            refine sr_nil ?_
            refine aw_kp [2, 3, 4, 5, 6, 7, 8, 35, 36, 37, 38, 39, 40, 41, 42] ?_
            refine aw_seq ?_
            refine aw_seq_region ?_
            refine sr_mv ?_
            refine sr_c (x_gt rfl rfl) (fun h9 => ?_) (fun h9 => ?_)
            · refine sr_nil ?_
              refine aw_kp [2, 3, 4, 5, 6, 7, 8, 35, 36, 37, 38, 39, 40, 41, 42, 43, 44] ?_
              refine aw_true rfl ?_
              refine aw_seq_region ?_
              refine sr_as ?_
              refine sr_as ?_
              refine sr_nil ?_
              refine aw_kp [2, 3, 4, 5, 6, 7, 8, 35, 36, 37, 38, 39, 40, 41, 42, 43, 44] ?_
              refine aw_ret ?_
              show ∃ v H2, ResV _ _ _ _ _ _ v ∧ Sub H2 _ ∧ _
              exact ⟨_, H, resV rfl (.cons rfl (.cons rfl .nil)), (by repeat (first | exact Sub.refl _ | apply Sub.drop)), (by first | exact ⟨by rw [hrd, rdA (neg := false) (by first | exact .inl (by assumption) | exact .inr (.inl (by omega)) | exact .inr (.inr ⟨by rw [List.head?_eq_getElem?, hc0]; exact congrArg some (by omega), by first | exact .inl (by omega) | exact .inr rfl⟩))]; rfl, rfl⟩ | exact ⟨by rw [hrd, rdB (neg := false) ⟨x, List.mem_of_getElem? hx, fun q => by have := (u8dig x).2 q; omega⟩]; rfl, rfl⟩ | exact ⟨by rw [hrd, rdPT hf hall (by omega)]; rfl, rfl⟩ | exact ⟨by rw [hrd, rdPF hf hall (by omega)]; rfl, rfl⟩)⟩
            · refine sr_nil ?_
              refine aw_kp [2, 3, 4, 5, 6, 7, 8, 35, 36, 37, 38, 39, 40, 41, 42, 43, 44] ?_
              refine aw_false rfl ?_
              refine aw_skip ?_
              show AW _ _ _ _ _ _ _
              refine aw_region ?_
              have hxd : isD x := (u8dig x).1 (by omega)
              have hxd2 : 48 ≤ x.toNat ∧ x.toNat ≤ 57 := hxd
              have hv18 := vlD_lt18 hall (by rw [List.length_take]; omega)
              refine sr_mv ?_
              refine sr_rd (x_mul' rfl rfl (u64w (by omega) (by omega))) ?_
              refine sr_mv ?_
              refine sr_rd (x_conv' Tryd.underlying5 Tryd.underlying95 rfl (u64w (by omega) (by omega))) ?_
              refine sr_rd (x_add' rfl rfl (u64w (by omega) (by omega))) ?_
              refine sr_as ?_
              refine sr_nil ?_
              show AW _ _ _ _ _ _ _
              refine aw_region ?_
              refine sr_rd (x_add' rfl rfl (i64w (by omega) (by omega))) ?_
              refine sr_mv ?_
              refine sr_nil ?_
              show ∃ s', _ ∧ _ ∧ _ ∧ _
              exact ⟨k + 1, ⟨by omega, (by rw [takeS hx]; intro y hy; rw [List.mem_append] at hy; rcases hy with hy | hy; exact hall y hy; rw [List.mem_singleton] at hy; rw [hy]; exact hxd)⟩, by omega, (by rw [takeS hx, vlD_snoc]; (repeat (first | exact keep_nil | refine keep_cons (by first | rfl | exact congrArg (fun z => some (Value.int .u64 z)) (by omega)) ?_)); first | done | fail), (by repeat (first | exact Sub.refl _ | apply Sub.drop))⟩
          · refine sr_nil ?_
            refine aw_kp [2, 3, 4, 5, 6, 35, 36, 37] ?_
            refine aw_seq ?_
            refine aw_false rfl ?_
            refine aw_exit ?_
            show AW _ _ _ _ _ _ _
            refine aw_seq ?_
            refine aw_block ?_
            refine aw_seq_region ?_
            have ek : l.take k = l := List.take_of_length_le (by omega)
            rw [ek] at hall hvl ⊢
            refine sr_mv ?_
            refine sr_mv ?_
            refine sr_sk ?_
            refine sr_sk ?_
            refine sr_rd (x_pick_f rfl rfl rfl) ?_
            refine sr_as ?_
            refine sr_nil ?_
            refine aw_kp [2, 3, 5, 6, 51] ?_
            refine aw_false rfl ?_
            refine aw_seq_region ?_
            refine sr_mv ?_
            refine sr_rd (x_not rfl) ?_
            refine sr_mv ?_
            refine sr_ry (x_move rfl) ?_
            refine sr_cy (x_lt rfl rfl) (fun h10 => ?_) (fun h10 => ?_)
            · refine sr_rd (x_pick_t rfl rfl rfl) ?_
              refine sr_as ?_
              refine sr_nil ?_
              refine aw_kp [2, 3, 6, 60] ?_
              refine aw_true rfl ?_
              refine aw_seq_region ?_
              refine sr_mv ?_
              refine sr_rd (x_conv' Tryd.underlying95 Tryd.underlying2 rfl (i64w (by omega) (by omega))) ?_
              refine sr_as ?_
              refine sr_as ?_
              refine sr_nil ?_
              refine aw_kp [2, 3] ?_
              refine aw_ret ?_
              show ∃ v H2, ResV _ _ _ _ _ _ v ∧ Sub H2 _ ∧ _
              exact ⟨_, H, resV rfl (.cons rfl (.cons rfl .nil)), (by repeat (first | exact Sub.refl _ | apply Sub.drop)), (by first | exact ⟨by rw [hrd, rdA (neg := false) (by first | exact .inl (by assumption) | exact .inr (.inl (by omega)) | exact .inr (.inr ⟨by rw [List.head?_eq_getElem?, hc0]; exact congrArg some (by omega), by first | exact .inl (by omega) | exact .inr rfl⟩))]; rfl, rfl⟩ | exact ⟨by rw [hrd, rdB (neg := false) ⟨x, List.mem_of_getElem? hx, fun q => by have := (u8dig x).2 q; omega⟩]; rfl, rfl⟩ | exact ⟨by rw [hrd, rdPT hf hall (by omega)]; rfl, rfl⟩ | exact ⟨by rw [hrd, rdPF hf hall (by omega)]; rfl, rfl⟩)⟩
            · refine sr_rd (x_pick_t rfl rfl rfl) ?_
              refine sr_as ?_
              refine sr_nil ?_
              refine aw_kp [2, 3, 6, 60] ?_
              refine aw_false rfl ?_
              refine aw_skip ?_
              show AW _ _ _ _ _ _ _
              refine aw_seq_region ?_
              refine sr_as ?_
              refine sr_as ?_
              refine sr_nil ?_
              refine aw_kp [2, 3] ?_
              refine aw_ret ?_
              show ∃ v H2, ResV _ _ _ _ _ _ v ∧ Sub H2 _ ∧ _
              exact ⟨_, H, resV rfl (.cons rfl (.cons rfl .nil)), (by repeat (first | exact Sub.refl _ | apply Sub.drop)), (by first | exact ⟨by rw [hrd, rdA (neg := false) (by first | exact .inl (by assumption) | exact .inr (.inl (by omega)) | exact .inr (.inr ⟨by rw [List.head?_eq_getElem?, hc0]; exact congrArg some (by omega), by first | exact .inl (by omega) | exact .inr rfl⟩))]; rfl, rfl⟩ | exact ⟨by rw [hrd, rdB (neg := false) ⟨x, List.mem_of_getElem? hx, fun q => by have := (u8dig x).2 q; omega⟩]; rfl, rfl⟩ | exact ⟨by rw [hrd, rdPT hf hall (by omega)]; rfl, rfl⟩ | exact ⟨by rw [hrd, rdPF hf hall (by omega)]; rfl, rfl⟩)⟩
  · have hrd : readN l0 = rdD true (l0.drop 1) := readN_yes hq.2
    have hl : (l0.drop 1).length ≤ 9223372036854775807 := by rw [List.length_drop]; omega
    clear hq hl0
    rw [show ([45] : List UInt8).length = 1 from rfl]
    generalize l0.drop 1 = l at *
    refine sr_mv ?_
    refine sr_rd (x_extract rfl rfl) ?_
    refine sr_rd (x_extract rfl rfl) ?_
    refine sr_as ?_
    refine sr_as ?_
    refine sr_nil ?_
    refine aw_kp [2, 3, 4, 5] ?_
    refine aw_seq ?_
    refine aw_seq_region ?_
    refine sr_mv ?_
    refine sr_c (x_eqB rfl rfl) (fun h11 => ?_) (fun h11 => ?_)
    · refine sr_mv ?_
      refine sr_sk ?_
      refine sr_sk ?_
      refine sr_sk ?_
      refine sr_rd (x_pick_t rfl rfl rfl) ?_
      refine sr_mv ?_
      refine sr_sk ?_
      refine sr_sk ?_
      refine sr_sk ?_
      refine sr_sk ?_
      refine sr_skip rfl (wtd_un rfl rfl rfl) rfl ?_
      refine sr_skip rfl (wtd_un rfl rfl rfl) rfl ?_
      refine sr_skip rfl (wtd_un rfl rfl rfl) rfl ?_
      refine sr_skip rfl (wtd_un rfl rfl rfl) rfl ?_
      refine sr_skip rfl (wtd_un rfl rfl rfl) rfl ?_
      refine sr_skip rfl (wtd_un rfl rfl rfl) rfl ?_
      refine sr_sk ?_
      refine sr_rd (x_pick_t rfl rfl rfl) ?_
      refine sr_nil ?_
      refine aw_kp [2, 3, 4, 5, 33] ?_
      refine aw_true rfl ?_
      refine aw_seq_region ?_
      refine sr_as ?_
      refine sr_as ?_
      refine sr_nil ?_
      refine aw_kp [2, 3, 4, 5] ?_
      refine aw_ret ?_
      show ∃ v H2, ResV _ _ _ _ _ _ v ∧ Sub H2 _ ∧ _
      exact ⟨_, H, resV rfl (.cons rfl (.cons rfl .nil)), (by repeat (first | exact Sub.refl _ | apply Sub.drop)), (by first | exact ⟨by rw [hrd, rdA (neg := true) (by first | exact .inl (by assumption) | exact .inr (.inl (by omega)) | exact .inr (.inr ⟨by rw [List.head?_eq_getElem?, hc0]; exact congrArg some (by omega), by first | exact .inl (by omega) | exact .inr rfl⟩))]; rfl, rfl⟩ | exact ⟨by rw [hrd, rdB (neg := true) ⟨x, List.mem_of_getElem? hx, fun q => by have := (u8dig x).2 q; omega⟩]; rfl, rfl⟩ | exact ⟨by rw [hrd, rdNT hf hall (by omega)]; rfl, rfl⟩ | exact ⟨by rw [hrd, rdNF hf hall (by omega)]; rfl, rfl⟩)⟩
    · refine sr_mv ?_
      refine sr_ry (x_move rfl) ?_
      refine sr_ry (x_lenB Tryd.underlying9 rfl) ?_
      refine sr_cy (x_gt rfl rfl) (fun h12 => ?_) (fun h12 => ?_)
      · refine sr_rd (x_pick_f rfl rfl rfl) ?_
        refine sr_mv ?_
        refine sr_sk ?_
        refine sr_sk ?_
        refine sr_sk ?_
        refine sr_sk ?_
        refine sr_skip rfl (wtd_un rfl rfl rfl) rfl ?_
        refine sr_skip rfl (wtd_un rfl rfl rfl) rfl ?_
        refine sr_skip rfl (wtd_un rfl rfl rfl) rfl ?_
        refine sr_skip rfl (wtd_un rfl rfl rfl) rfl ?_
        refine sr_skip rfl (wtd_un rfl rfl rfl) rfl ?_
        refine sr_skip rfl (wtd_un rfl rfl rfl) rfl ?_
        refine sr_sk ?_
        refine sr_rd (x_pick_t rfl rfl rfl) ?_
        refine sr_nil ?_
        refine aw_kp [2, 3, 4, 5, 33] ?_
        refine aw_true rfl ?_
        refine aw_seq_region ?_
        refine sr_as ?_
        refine sr_as ?_
        refine sr_nil ?_
        refine aw_kp [2, 3, 4, 5] ?_
        refine aw_ret ?_
        show ∃ v H2, ResV _ _ _ _ _ _ v ∧ Sub H2 _ ∧ _
        exact ⟨_, H, resV rfl (.cons rfl (.cons rfl .nil)), (by repeat (first | exact Sub.refl _ | apply Sub.drop)), (by first | exact ⟨by rw [hrd, rdA (neg := true) (by first | exact .inl (by assumption) | exact .inr (.inl (by omega)) | exact .inr (.inr ⟨by rw [List.head?_eq_getElem?, hc0]; exact congrArg some (by omega), by first | exact .inl (by omega) | exact .inr rfl⟩))]; rfl, rfl⟩ | exact ⟨by rw [hrd, rdB (neg := true) ⟨x, List.mem_of_getElem? hx, fun q => by have := (u8dig x).2 q; omega⟩]; rfl, rfl⟩ | exact ⟨by rw [hrd, rdNT hf hall (by omega)]; rfl, rfl⟩ | exact ⟨by rw [hrd, rdNF hf hall (by omega)]; rfl, rfl⟩)⟩
      · refine sr_rd (x_pick_f rfl rfl rfl) ?_
        refine sr_mv ?_
        refine sr_ry (x_move rfl) ?_
        obtain ⟨c0, hc0⟩ := get_ex (show 0 < l.length from List.length_pos_iff.2 (by assumption))
        refine sr_ry (x_indexB 0 Tryd.underlying9 rfl rfl (by first | rfl | omega) hc0) ?_
        refine sr_cy (x_eq rfl rfl) (fun h13 => ?_) (fun h13 => ?_)
        · refine sr_ry (x_move rfl) ?_
          refine sr_ry (x_move rfl) ?_
          refine sr_ry (x_lenB Tryd.underlying9 rfl) ?_
          refine sr_cy (x_gt rfl rfl) (fun h14 => ?_) (fun h14 => ?_)
          · refine sr_ry (x_move rfl) ?_
            refine sr_sk ?_
            refine sr_ry (x_pick_t rfl rfl rfl) ?_
            refine sr_ry (x_pick_t rfl rfl rfl) ?_
            refine sr_rd (x_pick_f rfl rfl rfl) ?_
            refine sr_nil ?_
            refine aw_kp [2, 3, 4, 5, 33] ?_
            refine aw_true rfl ?_
            refine aw_seq_region ?_
            refine sr_as ?_
            refine sr_as ?_
            refine sr_nil ?_
            refine aw_kp [2, 3, 4, 5] ?_
            refine aw_ret ?_
            show ∃ v H2, ResV _ _ _ _ _ _ v ∧ Sub H2 _ ∧ _
            exact ⟨_, H, resV rfl (.cons rfl (.cons rfl .nil)), (by repeat (first | exact Sub.refl _ | apply Sub.drop)), (by first | exact ⟨by rw [hrd, rdA (neg := true) (by first | exact .inl (by assumption) | exact .inr (.inl (by omega)) | exact .inr (.inr ⟨by rw [List.head?_eq_getElem?, hc0]; exact congrArg some (by omega), by first | exact .inl (by omega) | exact .inr rfl⟩))]; rfl, rfl⟩ | exact ⟨by rw [hrd, rdB (neg := true) ⟨x, List.mem_of_getElem? hx, fun q => by have := (u8dig x).2 q; omega⟩]; rfl, rfl⟩ | exact ⟨by rw [hrd, rdNT hf hall (by omega)]; rfl, rfl⟩ | exact ⟨by rw [hrd, rdNF hf hall (by omega)]; rfl, rfl⟩)⟩
          · refine sr_ry (x_move rfl) ?_
            refine sr_ry (x_move rfl) ?_
            refine sr_ry (x_pick_f rfl rfl rfl) ?_
            refine sr_ry (x_pick_t rfl rfl rfl) ?_
            refine sr_rd (x_pick_f rfl rfl rfl) ?_
            refine sr_nil ?_
            refine aw_kp [2, 3, 4, 5, 33] ?_
            refine aw_true rfl ?_
            refine aw_seq_region ?_
            refine sr_as ?_
            refine sr_as ?_
            refine sr_nil ?_
            refine aw_kp [2, 3, 4, 5] ?_
            refine aw_ret ?_
            show ∃ v H2, ResV _ _ _ _ _ _ v ∧ Sub H2 _ ∧ _
            exact ⟨_, H, resV rfl (.cons rfl (.cons rfl .nil)), (by repeat (first | exact Sub.refl _ | apply Sub.drop)), (by first | exact ⟨by rw [hrd, rdA (neg := true) (by first | exact .inl (by assumption) | exact .inr (.inl (by omega)) | exact .inr (.inr ⟨by rw [List.head?_eq_getElem?, hc0]; exact congrArg some (by omega), by first | exact .inl (by omega) | exact .inr rfl⟩))]; rfl, rfl⟩ | exact ⟨by rw [hrd, rdB (neg := true) ⟨x, List.mem_of_getElem? hx, fun q => by have := (u8dig x).2 q; omega⟩]; rfl, rfl⟩ | exact ⟨by rw [hrd, rdNT hf hall (by omega)]; rfl, rfl⟩ | exact ⟨by rw [hrd, rdNF hf hall (by omega)]; rfl, rfl⟩)⟩
        · refine sr_ry (x_move rfl) ?_
          refine sr_sk ?_
          refine sr_sk ?_
          refine sr_sk ?_
          refine sr_sk ?_
          refine sr_skip rfl (wtd_un rfl rfl rfl) rfl ?_
          refine sr_sk ?_
          refine sr_ry (x_pick_f rfl rfl rfl) ?_
          refine sr_rd (x_pick_f rfl rfl rfl) ?_
          refine sr_nil ?_
          refine aw_kp [2, 3, 4, 5, 33] ?_
          refine aw_false rfl ?_
          refine aw_skip ?_
          show AW _ _ _ _ _ _ _
          refine aw_seq_region ?_
          have hf : ¬ (l = [] ∨ 19 < l.length ∨ (l.head?.map UInt8.toNat = some 48 ∧ (1 < l.length ∨ true = true))) := by
            rintro (q | q | ⟨q, r⟩)
            · exact absurd q (by assumption)
            · omega
            · rw [List.head?_eq_getElem?, hc0] at q
              have q2 : c0.toNat = 48 := by simpa using q
              rcases r with r | r
              · omega
              · first | omega | cases r
          refine sr_as ?_
          refine sr_nil ?_
          refine aw_kp [2, 3, 4, 5, 6] ?_
          refine aw_seq ?_
          refine aw_seq_region ?_
          refine sr_mv ?_
          refine sr_rd (x_lenB Tryd.underlying9 rfl) ?_
          refine sr_mv ?_
          refine sr_nil ?_
          refine aw_kp [2, 3, 4, 5, 6, 35, 36] ?_
          refine aw_block ?_
          refine aw_loop (ι := Nat) (fun k => k ≤ l.length ∧ (∀ c ∈ l.take k, isD c)) (fun k => [(2, .int .i64 0), (3, .bool false), (4, .string (bs l)), (5, .bool true), (6, .int .u64 ((vlD (l.take k) : Nat) : Int)), (35, .int .i64 l.length), (36, .int .i64 k)]) (fun _ => H) (fun k => l.length - k) 0 (⟨Nat.zero_le _, by simp⟩) KeepF.auto (by repeat (first | exact Sub.refl _ | apply Sub.drop)) ?_
          intro k hk9
          obtain ⟨hk, hall⟩ := hk9
          have hvl := vlD_lt19 hall (by rw [List.length_take]; omega)
          refine aw_seq_region ?_
          refine sr_c (x_lt rfl rfl) (fun h15 => ?_) (fun h15 => ?_)
          · refine sr_nil ?_
            refine aw_kp [2, 3, 4, 5, 6, 35, 36, 37] ?_
            refine aw_seq ?_
            refine aw_true rfl ?_
            refine aw_skip ?_
            show AW _ _ _ _ _ _ _
            refine aw_seq ?_
            refine aw_block ?_
            refine aw_seq_region ?_
            refine sr_mv ?_
            refine sr_as ?_
            refine sr_nil ?_
            refine aw_kp [2, 3, 4, 5, 6, 7, 35, 36, 37, 38] ?_
            refine aw_seq_region ?_
            obtain ⟨x, hx⟩ := get_ex (show k < l.length by omega)
            refine sr_mv ?_
            refine sr_mv ?_
            refine sr_rd (x_indexB k Tryd.underlying9 rfl rfl (by first | rfl | omega) hx) ?_
            refine sr_rd (x_sub' (c := (((x.toNat + 208) % 256 : Nat) : Int)) rfl rfl (u8sub x)) ?_
            refine sr_as ?_
            refine sr_nil ?_
            refine aw_kp [2, 3, 4, 5, 6, 7, 8, 35, 36, 37, 38, 39, 40, 41, 42] ?_
            refine aw_seq ?_
            refine aw_seq_region ?_
            refine sr_mv ?_
            refine sr_c (x_gt rfl rfl) (fun h16 => ?_) (fun h16 => ?_)
            · refine sr_nil ?_
              refine aw_kp [2, 3, 4, 5, 6, 7, 8, 35, 36, 37, 38, 39, 40, 41, 42, 43, 44] ?_
              refine aw_true rfl ?_
              refine aw_seq_region ?_
              refine sr_as ?_
              refine sr_as ?_
              refine sr_nil ?_
              refine aw_kp [2, 3, 4, 5, 6, 7, 8, 35, 36, 37, 38, 39, 40, 41, 42, 43, 44] ?_
              refine aw_ret ?_
              show ∃ v H2, ResV _ _ _ _ _ _ v ∧ Sub H2 _ ∧ _
              exact ⟨_, H, resV rfl (.cons rfl (.cons rfl .nil)), (by repeat (first | exact Sub.refl _ | apply Sub.drop)), (by first | exact ⟨by rw [hrd, rdA (neg := true) (by first | exact .inl (by assumption) | exact .inr (.inl (by omega)) | exact .inr (.inr ⟨by rw [List.head?_eq_getElem?, hc0]; exact congrArg some (by omega), by first | exact .inl (by omega) | exact .inr rfl⟩))]; rfl, rfl⟩ | exact ⟨by rw [hrd, rdB (neg := true) ⟨x, List.mem_of_getElem? hx, fun q => by have := (u8dig x).2 q; omega⟩]; rfl, rfl⟩ | exact ⟨by rw [hrd, rdNT hf hall (by omega)]; rfl, rfl⟩ | exact ⟨by rw [hrd, rdNF hf hall (by omega)]; rfl, rfl⟩)⟩
            · refine sr_nil ?_
              refine aw_kp [2, 3, 4, 5, 6, 7, 8, 35, 36, 37, 38, 39, 40, 41, 42, 43, 44] ?_
              refine aw_false rfl ?_
              refine aw_skip ?_
              show AW _ _ _ _ _ _ _
              refine aw_region ?_
              have hxd : isD x := (u8dig x).1 (by omega)
              have hxd2 : 48 ≤ x.toNat ∧ x.toNat ≤ 57 := hxd
              have hv18 := vlD_lt18 hall (by rw [List.length_take]; omega)
              refine sr_mv ?_
              refine sr_rd (x_mul' rfl rfl (u64w (by omega) (by omega))) ?_
              refine sr_mv ?_
              refine sr_rd (x_conv' Tryd.underlying5 Tryd.underlying95 rfl (u64w (by omega) (by omega))) ?_
              refine sr_rd (x_add' rfl rfl (u64w (by omega) (by omega))) ?_
              refine sr_as ?_
              refine sr_nil ?_
              show AW _ _ _ _ _ _ _
              refine aw_region ?_
              refine sr_rd (x_add' rfl rfl (i64w (by omega) (by omega))) ?_
              refine sr_mv ?_
              refine sr_nil ?_
              show ∃ s', _ ∧ _ ∧ _ ∧ _
              exact ⟨k + 1, ⟨by omega, (by rw [takeS hx]; intro y hy; rw [List.mem_append] at hy; rcases hy with hy | hy; exact hall y hy; rw [List.mem_singleton] at hy; rw [hy]; exact hxd)⟩, by omega, (by rw [takeS hx, vlD_snoc]; (repeat (first | exact keep_nil | refine keep_cons (by first | rfl | exact congrArg (fun z => some (Value.int .u64 z)) (by omega)) ?_)); first | done | fail), (by repeat (first | exact Sub.refl _ | apply Sub.drop))⟩
          · refine sr_nil ?_
            refine aw_kp [2, 3, 4, 5, 6, 35, 36, 37] ?_
            refine aw_seq ?_
            refine aw_false rfl ?_
            refine aw_exit ?_
            show AW _ _ _ _ _ _ _
            refine aw_seq ?_
            refine aw_block ?_
            refine aw_seq_region ?_
            have ek : l.take k = l := List.take_of_length_le (by omega)
            rw [ek] at hall hvl ⊢
            refine sr_mv ?_
            refine sr_mv ?_
            refine sr_ry (x_move rfl) ?_
            refine sr_cy (x_le rfl rfl) (fun h17 => ?_) (fun h17 => ?_)
            · refine sr_rd (x_pick_t rfl rfl rfl) ?_
              refine sr_as ?_
              refine sr_nil ?_
              refine aw_kp [2, 3, 5, 6, 51] ?_
              refine aw_true rfl ?_
              refine aw_seq_region ?_
              refine sr_mv ?_
              refine sr_rd (x_neg' (c := IntKind.u64.wrap (0 - ((vlD l : Nat) : Int))) rfl rfl) ?_
              refine sr_rd (x_conv' (c := -((vlD l : Nat) : Int)) Tryd.underlying95 Tryd.underlying2 rfl (i64neg (by omega))) ?_
              refine sr_as ?_
              refine sr_as ?_
              refine sr_nil ?_
              refine aw_kp [2, 3] ?_
              refine aw_ret ?_
              show ∃ v H2, ResV _ _ _ _ _ _ v ∧ Sub H2 _ ∧ _
              exact ⟨_, H, resV rfl (.cons rfl (.cons rfl .nil)), (by repeat (first | exact Sub.refl _ | apply Sub.drop)), (by first | exact ⟨by rw [hrd, rdA (neg := true) (by first | exact .inl (by assumption) | exact .inr (.inl (by omega)) | exact .inr (.inr ⟨by rw [List.head?_eq_getElem?, hc0]; exact congrArg some (by omega), by first | exact .inl (by omega) | exact .inr rfl⟩))]; rfl, rfl⟩ | exact ⟨by rw [hrd, rdB (neg := true) ⟨x, List.mem_of_getElem? hx, fun q => by have := (u8dig x).2 q; omega⟩]; rfl, rfl⟩ | exact ⟨by rw [hrd, rdNT hf hall (by omega)]; rfl, rfl⟩ | exact ⟨by rw [hrd, rdNF hf hall (by omega)]; rfl, rfl⟩)⟩
            · refine sr_rd (x_pick_t rfl rfl rfl) ?_
              refine sr_as ?_
              refine sr_nil ?_
              refine aw_kp [2, 3, 5, 6, 51] ?_
              refine aw_false rfl ?_
              refine aw_seq_region ?_
              refine sr_mv ?_
              refine sr_rd (x_not rfl) ?_
              refine sr_mv ?_
              refine sr_sk ?_
              refine sr_sk ?_
              refine sr_rd (x_pick_f rfl rfl rfl) ?_
              refine sr_as ?_
              refine sr_nil ?_
              refine aw_kp [2, 3, 6, 60] ?_
              refine aw_false rfl ?_
              refine aw_skip ?_
              show AW _ _ _ _ _ _ _
              refine aw_seq_region ?_
              refine sr_as ?_
              refine sr_as ?_
              refine sr_nil ?_
              refine aw_kp [2, 3] ?_
              refine aw_ret ?_
              show ∃ v H2, ResV _ _ _ _ _ _ v ∧ Sub H2 _ ∧ _
              exact ⟨_, H, resV rfl (.cons rfl (.cons rfl .nil)), (by repeat (first | exact Sub.refl _ | apply Sub.drop)), (by first | exact ⟨by rw [hrd, rdA (neg := true) (by first | exact .inl (by assumption) | exact .inr (.inl (by omega)) | exact .inr (.inr ⟨by rw [List.head?_eq_getElem?, hc0]; exact congrArg some (by omega), by first | exact .inl (by omega) | exact .inr rfl⟩))]; rfl, rfl⟩ | exact ⟨by rw [hrd, rdB (neg := true) ⟨x, List.mem_of_getElem? hx, fun q => by have := (u8dig x).2 q; omega⟩]; rfl, rfl⟩ | exact ⟨by rw [hrd, rdNT hf hall (by omega)]; rfl, rfl⟩ | exact ⟨by rw [hrd, rdNF hf hall (by omega)]; rfl, rfl⟩)⟩
end
end Go.Proofs.YtbcajgkaepihfaaDoor
