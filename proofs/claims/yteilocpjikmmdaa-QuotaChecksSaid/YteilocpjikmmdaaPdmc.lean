/- Sorting numbers. -/
import Derived.Test.YteilocpjikmmdaaPdmb
namespace Go.Proofs.Yteilocpjikmmdaa
open Go.Proofs.Yteilocpjikmmdaa.Sym
open Go.RowKit (Below)
set_option linter.unusedVariables false
set_option linter.unusedSimpArgs false
theorem cl146 : Callable Try.prog 146 := ⟨Try.f146, Try.func146, by kernel_rfl, by kernel_rfl⟩
theorem cl156 : Callable Try.prog 156 := ⟨Try.f156, Try.func156, by kernel_rfl, by kernel_rfl⟩
theorem cl157 : Callable Try.prog 157 := ⟨Try.f157, Try.func157, by kernel_rfl, by kernel_rfl⟩
theorem cl158 : Callable Try.prog 158 := ⟨Try.f158, Try.func158, by kernel_rfl, by kernel_rfl⟩
theorem cl159 : Callable Try.prog 159 := ⟨Try.f159, Try.func159, by kernel_rfl, by kernel_rfl⟩
theorem cl160 : Callable Try.prog 160 := ⟨Try.f160, Try.func160, by kernel_rfl, by kernel_rfl⟩
theorem cl161 : Callable Try.prog 161 := ⟨Try.f161, Try.func161, by kernel_rfl, by kernel_rfl⟩
theorem cl163 : Callable Try.prog 163 := ⟨Try.f163, Try.func163, by kernel_rfl, by kernel_rfl⟩
theorem cl164 : Callable Try.prog 164 := ⟨Try.f164, Try.func164, by kernel_rfl, by kernel_rfl⟩
theorem cl175 : Callable Try.prog 175 := ⟨Try.f175, Try.func175, by kernel_rfl, by kernel_rfl⟩
theorem cl176 : Callable Try.prog 176 := ⟨Try.f176, Try.func176, by kernel_rfl, by kernel_rfl⟩
theorem cl177 : Callable Try.prog 177 := ⟨Try.f177, Try.func177, by kernel_rfl, by kernel_rfl⟩
theorem cl178 : Callable Try.prog 178 := ⟨Try.f178, Try.func178, by kernel_rfl, by kernel_rfl⟩
theorem cl182 : Callable Try.prog 182 := ⟨Try.f182, Try.func182, by kernel_rfl, by kernel_rfl⟩
theorem zr239 : zeroOf Try.prog 239 = some (.int .u64 0) := by kernel_rfl
theorem zr3 : zeroOf Try.prog 3 = some (.int .i64 0) := by kernel_rfl
section
variable {W0 : World}
set_option maxRecDepth 100000 in
set_option maxHeartbeats 400000 in
theorem mOrd_s (b cap n : Nat) (W : List Int) (post : List Value) (G : SHeap) (hl : W.length = n) (hn : n ≤ 100000) (hcap : n ≤ cap) (hcb : cap ≤ 9223372036854775807) (r : Nat) (s : Int) (hs : 0 ≤ s ∧ s ≤ 1000) (i j : Nat) (hi : i < n) (hj : j < n) : AC Try.prog W0 182 [.slice (some ⟨b, 0, none⟩) n cap, .int .i64 i, .int .i64 j, .pointer (some ⟨r, 0, none⟩)] ((r, .cells [.int .i64 (s)].toArray 3 (0, 0)) :: (b, .cells ((W).flatMap intC ++ post).toArray 3 (0, 0)) :: G) (fun v H' => ∃ (i' j' : Nat) (s' : Int), (i' = i ∨ i' = j) ∧ (j' = i ∨ j' = j) ∧ (s ≤ s' ∧ s' ≤ s + 1) ∧ v = .tuple #[.int .i64 i', .int .i64 j'] ∧ H' = ((r, .cells [.int .i64 (s')].toArray 3 (0, 0)) :: (b, .cells ((W).flatMap intC ++ post).toArray 3 (0, 0)) :: G)) := by
  refine ac_of Try.func182 rfl rfl rfl ?_
  refine aw_seq_region ?_
  refine sr_as ?_
  refine sr_as ?_
  refine sr_nil ?_
  refine aw_kp [0, 1, 2, 3, 8, 9] ?_
  refine aw_seq ?_
  refine aw_seq_dr ⟨_, 9, 28, [[], [], [0, 1], [0, 1, 2], [], [], [4, 5], [4, 5, 6], [0, 1, 2, 3, 4, 5, 6, 7]], [.light, .light, .light, .mem, .light, .light, .light, .mem, .call]⟩ (by kernel_rfl) rfl rfl mix ?_
  refine dr_l (x_move rfl) ?_
  refine dr_l (x_move rfl) ?_
  refine dr_l (x_indexAddrN (j) Try.underlying134 sz3 rfl rfl rfl (by omega) (by omega)) ?_
  refine dr_mem0 rfl rfl (wtd_none rfl) (x_load ag3 rfl (cells_get (cells_flat0 (n := 1) (enc := intC) (fun _ => rfl) (xs := W) (i := j) (post := post) (show (b, Obj.cells ((W).flatMap intC ++ post).toArray 3 (0, 0)) ∈ _ from mauto) (gd_some (by omega))) 0 rfl)) ?_
  refine dr_l (x_move rfl) ?_
  refine dr_l (x_move rfl) ?_
  refine dr_l (x_indexAddrN (i) Try.underlying134 sz3 rfl rfl rfl (by omega) (by omega)) ?_
  refine dr_mem0 rfl rfl (wtd_none rfl) (x_load ag3 rfl (cells_get (cells_flat0 (n := 1) (enc := intC) (fun _ => rfl) (xs := W) (i := i) (post := post) (show (b, Obj.cells ((W).flatMap intC ++ post).toArray 3 (0, 0)) ∈ _ from mauto) (gd_some (by omega))) 0 rfl)) ?_
  refine dr_callq0 rfl rfl (wtd_none rfl) (opS_F rfl rfl rfl rfl cl162 ((mLess_s (gd W j) (gd W i) _))) (⟨_, rfl⟩) ?_
  rintro _ rfl
  generalize hd1 : decide (gd W j < gd W i) = d1
  cases d1
  · refine dr_nil0 ?_
    refine aw_kp [1, 2, 3, 8, 9, 18] ?_
    refine aw_false rfl ?_
    refine aw_skip ?_
    show AW _ _ _ _ _ _ _
    refine aw_seq_region ?_
    refine sr_mv ?_
    refine sr_mv ?_
    refine sr_as ?_
    refine sr_as ?_
    refine sr_nil ?_
    refine aw_kp [8, 9] ?_
    refine aw_ret ?_
    show ∃ v H2, ResV _ _ _ _ _ _ v ∧ Sub H2 _ ∧ _
    first | exact ⟨_, ((r, .cells [.int .i64 (s)].toArray 3 (0, 0)) :: (b, .cells ((W).flatMap intC ++ post).toArray 3 (0, 0)) :: G), resV rfl (.cons rfl (.cons rfl .nil)), Sub.refl _, i, j, s, .inl rfl, .inr rfl, by omega, rfl, rfl⟩ | exact ⟨_, ((r, .cells [.int .i64 (s + 1)].toArray 3 (0, 0)) :: (b, .cells ((W).flatMap intC ++ post).toArray 3 (0, 0)) :: G), resV rfl (.cons rfl (.cons rfl .nil)), Sub.refl _, j, i, s + 1, .inr rfl, .inl rfl, by omega, rfl, rfl⟩
  · refine dr_nil0 ?_
    refine aw_kp [1, 2, 3, 8, 9, 18] ?_
    refine aw_true rfl ?_
    refine aw_seq_region ?_
    refine sr_mv ?_
    refine sr_rd (x_nilCheck rfl) ?_
    refine sr_rd (x_load ag3 rfl (cells_ext mauto Ext.auto)) ?_
    refine sr_rd (x_add' rfl rfl (i64w (by omega) (by omega))) ?_
    refine sr_rd (x_nilCheck rfl) ?_
    refine sr_x0 rfl (wtd_none rfl) (x_store sz3 rfl rfl rfl rfl rfl Repl.auto Spl.auto) ?_
    refine sr_nil ?_
    refine aw_kp [1, 2, 8, 9] ?_
    refine aw_seq_region ?_
    refine sr_mv ?_
    refine sr_mv ?_
    refine sr_as ?_
    refine sr_as ?_
    refine sr_nil ?_
    refine aw_kp [1, 2, 8, 9] ?_
    refine aw_ret ?_
    show ∃ v H2, ResV _ _ _ _ _ _ v ∧ Sub H2 _ ∧ _
    first | exact ⟨_, ((r, .cells [.int .i64 (s)].toArray 3 (0, 0)) :: (b, .cells ((W).flatMap intC ++ post).toArray 3 (0, 0)) :: G), resV rfl (.cons rfl (.cons rfl .nil)), Sub.refl _, i, j, s, .inl rfl, .inr rfl, by omega, rfl, rfl⟩ | exact ⟨_, ((r, .cells [.int .i64 (s + 1)].toArray 3 (0, 0)) :: (b, .cells ((W).flatMap intC ++ post).toArray 3 (0, 0)) :: G), resV rfl (.cons rfl (.cons rfl .nil)), Sub.refl _, j, i, s + 1, .inr rfl, .inl rfl, by omega, rfl, rfl⟩
set_option maxRecDepth 100000 in
set_option maxHeartbeats 400000 in
theorem mMed_s (b cap n : Nat) (W : List Int) (post : List Value) (G : SHeap) (hl : W.length = n) (hn : n ≤ 100000) (hcap : n ≤ cap) (hcb : cap ≤ 9223372036854775807) (r : Nat) (s : Int) (hs : 0 ≤ s ∧ s ≤ 500) (i j k : Nat) (hi : i < n) (hj : j < n) (hk : k < n) : AC Try.prog W0 178 [.slice (some ⟨b, 0, none⟩) n cap, .int .i64 i, .int .i64 j, .int .i64 k, .pointer (some ⟨r, 0, none⟩)] ((r, .cells [.int .i64 (s)].toArray 3 (0, 0)) :: (b, .cells ((W).flatMap intC ++ post).toArray 3 (0, 0)) :: G) (fun v H' => ∃ (m : Nat) (s' : Int), (m = i ∨ m = j ∨ m = k) ∧ (s ≤ s' ∧ s' ≤ s + 3) ∧ v = .int .i64 m ∧ H' = ((r, .cells [.int .i64 (s')].toArray 3 (0, 0)) :: (b, .cells ((W).flatMap intC ++ post).toArray 3 (0, 0)) :: G)) := by
  refine ac_of Try.func178 rfl rfl rfl ?_
  refine aw_seq_region ?_
  refine sr_as ?_
  refine sr_nil ?_
  refine aw_kp [0, 1, 2, 3, 4, 10] ?_
  refine aw_seq_region ?_
  refine sr_mv ?_
  refine sr_mv ?_
  refine sr_mv ?_
  refine sr_mv ?_
  refine sr_d rfl (wtd_none rfl) rfl (opS_call rfl rfl rfl rfl cl182 (AC.sub Sub.autoP (mOrd_s b cap n W post G hl hn hcap hcb r s (by omega) i j (by omega) (by omega)))) ?_
  rintro _ _ ⟨i1, j1, s1, hi1, hj1, hs1, rfl, rfl⟩
  refine sr_mv ?_
  refine sr_rd (x_extract rfl rfl) ?_
  refine sr_rd (x_extract rfl rfl) ?_
  refine sr_as ?_
  refine sr_as ?_
  refine sr_nil ?_
  refine aw_kp [0, 1, 2, 3, 4, 10] ?_
  refine aw_seq_region ?_
  refine sr_mv ?_
  refine sr_mv ?_
  refine sr_mv ?_
  refine sr_mv ?_
  refine sr_d rfl (wtd_none rfl) rfl (opS_call rfl rfl rfl rfl cl182 (AC.sub Sub.autoP (mOrd_s b cap n W post G hl hn hcap hcb r s1 (by omega) j1 k (by omega) (by omega)))) ?_
  rintro _ _ ⟨i2, j2, s2, hi2, hj2, hs2, rfl, rfl⟩
  refine sr_mv ?_
  refine sr_rd (x_extract rfl rfl) ?_
  refine sr_rd (x_extract rfl rfl) ?_
  refine sr_as ?_
  refine sr_as ?_
  refine sr_nil ?_
  refine aw_kp [0, 1, 2, 4, 10] ?_
  refine aw_seq_region ?_
  refine sr_mv ?_
  refine sr_mv ?_
  refine sr_mv ?_
  refine sr_mv ?_
  refine sr_d rfl (wtd_none rfl) rfl (opS_call rfl rfl rfl rfl cl182 (AC.sub Sub.autoP (mOrd_s b cap n W post G hl hn hcap hcb r s2 (by omega) i1 i2 (by omega) (by omega)))) ?_
  rintro _ _ ⟨i3, j3, s3, hi3, hj3, hs3, rfl, rfl⟩
  refine sr_mv ?_
  refine sr_rd (x_extract rfl rfl) ?_
  refine sr_rd (x_extract rfl rfl) ?_
  refine sr_as ?_
  refine sr_as ?_
  refine sr_nil ?_
  refine aw_kp [2, 10] ?_
  refine aw_seq_region ?_
  refine sr_mv ?_
  refine sr_as ?_
  refine sr_nil ?_
  refine aw_kp [10] ?_
  refine aw_ret ?_
  show ∃ v H2, ResV _ _ _ _ _ _ v ∧ Sub H2 _ ∧ _
  exact ⟨_, ((r, .cells [.int .i64 (s3)].toArray 3 (0, 0)) :: (b, .cells ((W).flatMap intC ++ post).toArray 3 (0, 0)) :: G), resV rfl (.cons rfl .nil), Sub.refl _, j3, s3, by omega, by omega, rfl, rfl⟩
set_option maxRecDepth 100000 in
set_option maxHeartbeats 400000 in
theorem mAdj_s (b cap n : Nat) (W : List Int) (post : List Value) (G : SHeap) (hl : W.length = n) (hn : n ≤ 100000) (hcap : n ≤ cap) (hcb : cap ≤ 9223372036854775807) (r : Nat) (s : Int) (hs : 0 ≤ s ∧ s ≤ 400) (i : Nat) (hi0 : 1 ≤ i) (hi : i + 1 < n) : AC Try.prog W0 177 [.slice (some ⟨b, 0, none⟩) n cap, .int .i64 i, .pointer (some ⟨r, 0, none⟩)] ((r, .cells [.int .i64 (s)].toArray 3 (0, 0)) :: (b, .cells ((W).flatMap intC ++ post).toArray 3 (0, 0)) :: G) (fun v H' => ∃ (m : Nat) (s' : Int), (i ≤ m + 1 ∧ m ≤ i + 1) ∧ (s ≤ s' ∧ s' ≤ s + 3) ∧ v = .int .i64 m ∧ H' = ((r, .cells [.int .i64 (s')].toArray 3 (0, 0)) :: (b, .cells ((W).flatMap intC ++ post).toArray 3 (0, 0)) :: G)) := by
  refine ac_of Try.func177 rfl rfl rfl ?_
  refine aw_seq_region ?_
  refine sr_as ?_
  refine sr_nil ?_
  refine aw_kp [0, 1, 2, 6] ?_
  refine aw_seq_region ?_
  refine sr_mv ?_
  refine sr_mv ?_
  refine sr_rd (x_cast (u := .int .i64 ((i - 1 : Nat) : Int)) (x_sub' rfl rfl (i64w (by omega) (by omega))) (by congr 1; omega)) ?_
  refine sr_mv ?_
  refine sr_mv ?_
  refine sr_rd (x_cast (u := .int .i64 ((i + 1 : Nat) : Int)) (x_add' rfl rfl (i64w (by omega) (by omega))) (by congr 1)) ?_
  refine sr_mv ?_
  refine sr_d rfl (wtd_none rfl) rfl (opS_call rfl rfl rfl rfl cl178 (AC.sub Sub.autoP (mMed_s b cap n W post G hl hn hcap hcb r s (by omega) (i - 1) i (i + 1) (by omega) (by omega) (by omega)))) ?_
  rintro _ _ ⟨m1, s1, hm1, hs1, rfl, rfl⟩
  refine sr_as ?_
  refine sr_nil ?_
  refine aw_kp [6] ?_
  refine aw_ret ?_
  show ∃ v H2, ResV _ _ _ _ _ _ v ∧ Sub H2 _ ∧ _
  exact ⟨_, ((r, .cells [.int .i64 (s1)].toArray 3 (0, 0)) :: (b, .cells ((W).flatMap intC ++ post).toArray 3 (0, 0)) :: G), resV rfl (.cons rfl .nil), Sub.refl _, m1, s1, by omega, by omega, rfl, rfl⟩
set_option maxRecDepth 100000 in
set_option maxHeartbeats 2000000 in
theorem mPiv_s (b cap n : Nat) (W : List Int) (post : List Value) (G : SHeap) (hl : W.length = n) (hn : n ≤ 100000) (hcap : n ≤ cap) (hcb : cap ≤ 9223372036854775807) (a e : Nat) (h1 : a + 12 < e) (h2 : e ≤ n) : AC Try.prog W0 159 [.slice (some ⟨b, 0, none⟩) n cap, .int .i64 a, .int .i64 e] ((b, .cells ((W).flatMap intC ++ post).toArray 3 (0, 0)) :: G) (fun v H' => ∃ (m : Nat) (h : Int), (a ≤ m ∧ m < e) ∧ v = .tuple #[.int .i64 m, .int .i64 h] ∧ H' = ((b, .cells ((W).flatMap intC ++ post).toArray 3 (0, 0)) :: G)) := by
  obtain ⟨l, hl9⟩ : ∃ l, l = (e - a) / 4 := ⟨_, rfl⟩
  refine ac_of Try.func159 rfl rfl rfl ?_
  refine aw_seq_region ?_
  refine sr_as ?_
  refine sr_as ?_
  refine sr_nil ?_
  refine aw_kp [0, 1, 2, 6, 7] ?_
  refine aw_seq_region ?_
  refine sr_mv ?_
  refine sr_mv ?_
  refine sr_rd (x_cast (u := .int .i64 ((e - a : Nat) : Int)) (x_sub' rfl rfl (i64w (by omega) (by omega))) (by congr 1; omega)) ?_
  refine sr_as ?_
  refine sr_nil ?_
  refine aw_kp [0, 1, 6, 7, 8] ?_
  refine aw_seq_region ?_
  refine sr_new rfl (wtd_none rfl) rfl (x_alloc zr3 rfl) ?_
  intro r2_0 hr2_0 gr2_0
  refine sr_nil ?_
  refine aw_kp [0, 1, 6, 7, 8, 9] ?_
  refine aw_seq_region ?_
  refine sr_mv ?_
  refine sr_mv ?_
  refine sr_rd (x_cast (u := .int .i64 ((l : Nat) : Int)) (x_quo' (c := (((e - a) / 4 : Nat) : Int)) rfl rfl (by decide) (by rw [show (4 : Int) = ((4 : Nat) : Int) from rfl, div_t]; exact i64w (by omega) (by omega))) (by rw [hl9])) ?_
  refine sr_rd (x_cast (u := .int .i64 ((l * 1 : Nat) : Int)) (x_mul' rfl rfl (i64w (by omega) (by omega))) (by congr 1)) ?_
  refine sr_rd (x_cast (u := .int .i64 ((a + l * 1 : Nat) : Int)) (x_add' rfl rfl (i64w (by omega) (by omega))) (by congr 1)) ?_
  refine sr_as ?_
  refine sr_nil ?_
  refine aw_kp [0, 1, 6, 7, 8, 9, 10] ?_
  refine aw_seq_region ?_
  refine sr_mv ?_
  refine sr_mv ?_
  refine sr_rd (x_cast (u := .int .i64 ((l : Nat) : Int)) (x_quo' (c := (((e - a) / 4 : Nat) : Int)) rfl rfl (by decide) (by rw [show (4 : Int) = ((4 : Nat) : Int) from rfl, div_t]; exact i64w (by omega) (by omega))) (by rw [hl9])) ?_
  refine sr_rd (x_cast (u := .int .i64 ((l * 2 : Nat) : Int)) (x_mul' rfl rfl (i64w (by omega) (by omega))) (by congr 1)) ?_
  refine sr_rd (x_cast (u := .int .i64 ((a + l * 2 : Nat) : Int)) (x_add' rfl rfl (i64w (by omega) (by omega))) (by congr 1)) ?_
  refine sr_as ?_
  refine sr_nil ?_
  refine aw_kp [0, 1, 6, 7, 8, 9, 10, 11] ?_
  refine aw_seq_region ?_
  refine sr_mv ?_
  refine sr_mv ?_
  refine sr_rd (x_cast (u := .int .i64 ((l : Nat) : Int)) (x_quo' (c := (((e - a) / 4 : Nat) : Int)) rfl rfl (by decide) (by rw [show (4 : Int) = ((4 : Nat) : Int) from rfl, div_t]; exact i64w (by omega) (by omega))) (by rw [hl9])) ?_
  refine sr_rd (x_cast (u := .int .i64 ((l * 3 : Nat) : Int)) (x_mul' rfl rfl (i64w (by omega) (by omega))) (by congr 1)) ?_
  refine sr_rd (x_cast (u := .int .i64 ((a + l * 3 : Nat) : Int)) (x_add' rfl rfl (i64w (by omega) (by omega))) (by congr 1)) ?_
  refine sr_as ?_
  refine sr_nil ?_
  refine aw_kp [0, 6, 7, 8, 9, 10, 11, 12] ?_
  refine aw_seq ?_
  refine aw_seq_region ?_
  refine sr_mv ?_
  refine sr_c (x_ge rfl rfl) (fun h1 => ?_) (fun h1 => absurd (by first | omega | decide) h1)
  refine sr_nil ?_
  refine aw_kp [0, 6, 7, 8, 9, 10, 11, 12, 32] ?_
  refine aw_true rfl ?_
  refine aw_seq ?_
  refine aw_seq_region ?_
  refine sr_mv ?_
  refine sr_c (x_ge rfl rfl) (fun h2 => ?_) (fun h2 => ?_)
  · refine sr_nil ?_
    refine aw_kp [0, 6, 7, 9, 10, 11, 12, 34] ?_
    refine aw_true rfl ?_
    refine aw_seq_region ?_
    refine sr_mv ?_
    refine sr_mv ?_
    refine sr_d rfl (wtd_none rfl) rfl (opS_call rfl rfl rfl rfl cl177 (AC.sub Sub.autoP (mAdj_s b cap n W post G hl hn hcap hcb r2_0 0 (by omega) (a + l * 1) (by omega) (by omega)))) ?_
    rintro _ _ ⟨m1, s1, hm1, hs1, rfl, rfl⟩
    refine sr_as ?_
    refine sr_nil ?_
    refine aw_kp [0, 6, 7, 9, 10, 11, 12] ?_
    refine aw_seq_region ?_
    refine sr_mv ?_
    refine sr_mv ?_
    refine sr_d rfl (wtd_none rfl) rfl (opS_call rfl rfl rfl rfl cl177 (AC.sub Sub.autoP (mAdj_s b cap n W post G hl hn hcap hcb r2_0 s1 (by omega) (a + l * 2) (by omega) (by omega)))) ?_
    rintro _ _ ⟨m2, s2, hm2, hs2, rfl, rfl⟩
    refine sr_as ?_
    refine sr_nil ?_
    refine aw_kp [0, 6, 7, 9, 10, 11, 12] ?_
    refine aw_region ?_
    refine sr_mv ?_
    refine sr_mv ?_
    refine sr_d rfl (wtd_none rfl) rfl (opS_call rfl rfl rfl rfl cl177 (AC.sub Sub.autoP (mAdj_s b cap n W post G hl hn hcap hcb r2_0 s2 (by omega) (a + l * 3) (by omega) (by omega)))) ?_
    rintro _ _ ⟨m3, s3, hm3, hs3, rfl, rfl⟩
    refine sr_as ?_
    refine sr_nil ?_
    show AW _ _ _ _ _ _ _
    refine aw_region ?_
    refine sr_mv ?_
    refine sr_mv ?_
    refine sr_mv ?_
    refine sr_mv ?_
    refine sr_d rfl (wtd_none rfl) rfl (opS_call rfl rfl rfl rfl cl178 (AC.sub Sub.autoP (mMed_s b cap n W post G hl hn hcap hcb r2_0 s3 (by omega) (m1) (m2) (m3) (by omega) (by omega) (by omega)))) ?_
    rintro _ _ ⟨m4, s4, hm4, hs4, rfl, rfl⟩
    refine sr_as ?_
    refine sr_nil ?_
    show AW _ _ _ _ _ _ _
    refine aw_seq_region ?_
    refine sr_rd (x_load ag3 rfl (cells_ext mauto Ext.auto)) ?_
    refine sr_nil ?_
    refine aw_kp [6, 7, 11, 49] ?_
    refine aw_block ?_
    refine aw_seq_region ?_
    refine sr_c (x_eq rfl rfl) (fun h3 => ?_) (fun h3 => ?_)
    · refine sr_as ?_
      refine sr_nil ?_
      refine aw_kp [6, 7, 11, 49, 51] ?_
      refine aw_true rfl ?_
      refine aw_seq_region ?_
      refine sr_mv ?_
      refine sr_as ?_
      refine sr_as ?_
      refine sr_nil ?_
      refine aw_kp [6, 7] ?_
      refine aw_ret ?_
      show ∃ v H2, ResV _ _ _ _ _ _ v ∧ Sub H2 _ ∧ _
      exact ⟨_, _, resV rfl (.cons rfl (.cons rfl .nil)), Sub.autoP, m4, _, by omega, rfl, rfl⟩
    · refine sr_as ?_
      refine sr_nil ?_
      refine aw_kp [6, 7, 11, 49, 51] ?_
      refine aw_false rfl ?_
      refine aw_seq_region ?_
      refine sr_c (x_eq rfl rfl) (fun h4 => ?_) (fun h4 => ?_)
      · refine sr_as ?_
        refine sr_nil ?_
        refine aw_kp [6, 7, 11, 54] ?_
        refine aw_true rfl ?_
        refine aw_seq_region ?_
        refine sr_mv ?_
        refine sr_as ?_
        refine sr_as ?_
        refine sr_nil ?_
        refine aw_kp [6, 7] ?_
        refine aw_ret ?_
        show ∃ v H2, ResV _ _ _ _ _ _ v ∧ Sub H2 _ ∧ _
        exact ⟨_, _, resV rfl (.cons rfl (.cons rfl .nil)), Sub.autoP, m4, _, by omega, rfl, rfl⟩
      · refine sr_as ?_
        refine sr_nil ?_
        refine aw_kp [6, 7, 11, 54] ?_
        refine aw_false rfl ?_
        refine aw_seq_region ?_
        refine sr_mv ?_
        refine sr_as ?_
        refine sr_as ?_
        refine sr_nil ?_
        refine aw_kp [6, 7] ?_
        refine aw_ret ?_
        show ∃ v H2, ResV _ _ _ _ _ _ v ∧ Sub H2 _ ∧ _
        exact ⟨_, _, resV rfl (.cons rfl (.cons rfl .nil)), Sub.autoP, m4, _, by omega, rfl, rfl⟩
  · refine sr_nil ?_
    refine aw_kp [0, 6, 7, 9, 10, 11, 12, 34] ?_
    refine aw_false rfl ?_
    refine aw_skip ?_
    show AW _ _ _ _ _ _ _
    refine aw_region ?_
    refine sr_mv ?_
    refine sr_mv ?_
    refine sr_mv ?_
    refine sr_mv ?_
    refine sr_d rfl (wtd_none rfl) rfl (opS_call rfl rfl rfl rfl cl178 (AC.sub Sub.autoP (mMed_s b cap n W post G hl hn hcap hcb r2_0 0 (by omega) (a + l * 1) (a + l * 2) (a + l * 3) (by omega) (by omega) (by omega)))) ?_
    rintro _ _ ⟨m4, s4, hm4, hs4, rfl, rfl⟩
    refine sr_as ?_
    refine sr_nil ?_
    show AW _ _ _ _ _ _ _
    refine aw_seq_region ?_
    refine sr_rd (x_load ag3 rfl (cells_ext mauto Ext.auto)) ?_
    refine sr_nil ?_
    refine aw_kp [6, 7, 11, 49] ?_
    refine aw_block ?_
    refine aw_seq_region ?_
    refine sr_c (x_eq rfl rfl) (fun h5 => ?_) (fun h5 => ?_)
    · refine sr_as ?_
      refine sr_nil ?_
      refine aw_kp [6, 7, 11, 49, 51] ?_
      refine aw_true rfl ?_
      refine aw_seq_region ?_
      refine sr_mv ?_
      refine sr_as ?_
      refine sr_as ?_
      refine sr_nil ?_
      refine aw_kp [6, 7] ?_
      refine aw_ret ?_
      show ∃ v H2, ResV _ _ _ _ _ _ v ∧ Sub H2 _ ∧ _
      exact ⟨_, _, resV rfl (.cons rfl (.cons rfl .nil)), Sub.autoP, m4, _, by omega, rfl, rfl⟩
    · refine sr_as ?_
      refine sr_nil ?_
      refine aw_kp [6, 7, 11, 49, 51] ?_
      refine aw_false rfl ?_
      refine aw_seq_region ?_
      refine sr_c (x_eq rfl rfl) (fun h6 => ?_) (fun h6 => ?_)
      · refine sr_as ?_
        refine sr_nil ?_
        refine aw_kp [6, 7, 11, 54] ?_
        refine aw_true rfl ?_
        refine aw_seq_region ?_
        refine sr_mv ?_
        refine sr_as ?_
        refine sr_as ?_
        refine sr_nil ?_
        refine aw_kp [6, 7] ?_
        refine aw_ret ?_
        show ∃ v H2, ResV _ _ _ _ _ _ v ∧ Sub H2 _ ∧ _
        exact ⟨_, _, resV rfl (.cons rfl (.cons rfl .nil)), Sub.autoP, m4, _, by omega, rfl, rfl⟩
      · refine sr_as ?_
        refine sr_nil ?_
        refine aw_kp [6, 7, 11, 54] ?_
        refine aw_false rfl ?_
        refine aw_seq_region ?_
        refine sr_mv ?_
        refine sr_as ?_
        refine sr_as ?_
        refine sr_nil ?_
        refine aw_kp [6, 7] ?_
        refine aw_ret ?_
        show ∃ v H2, ResV _ _ _ _ _ _ v ∧ Sub H2 _ ∧ _
        exact ⟨_, _, resV rfl (.cons rfl (.cons rfl .nil)), Sub.autoP, m4, _, by omega, rfl, rfl⟩
set_option maxRecDepth 100000 in
set_option maxHeartbeats 2000000 in
theorem mBrk_s (b cap n : Nat) (W : List Int) (post : List Value) (G : SHeap) (hl : W.length = n) (hn : n ≤ 100000) (hcap : n ≤ cap) (hcb : cap ≤ 9223372036854775807) (a e : Nat) (h1 : a + 8 ≤ e) (h2 : e ≤ n) (he : e - a < 256) : AC Try.prog W0 158 [.slice (some ⟨b, 0, none⟩) n cap, .int .i64 a, .int .i64 e] ((b, .cells ((W).flatMap intC ++ post).toArray 3 (0, 0)) :: G) (fun v H' => ∃ W', Pq W a e W' ∧ v = .tuple #[] ∧ H' = (b, .cells ((W').flatMap intC ++ post).toArray 3 (0, 0)) :: G) := by
  obtain ⟨l, hl9⟩ : ∃ l, l = (e - a) / 4 := ⟨_, rfl⟩
  refine ac_of Try.func158 rfl rfl rfl ?_
  refine aw_seq_region ?_
  refine sr_mv ?_
  refine sr_mv ?_
  refine sr_rd (x_cast (u := .int .i64 ((e - a : Nat) : Int)) (x_sub' rfl rfl (i64w (by omega) (by omega))) (by congr 1; omega)) ?_
  refine sr_as ?_
  refine sr_nil ?_
  refine aw_kp [0, 1, 6] ?_
  refine aw_seq_region ?_
  refine sr_mv ?_
  refine sr_c (x_ge rfl rfl) (fun h1 => ?_) (fun h1 => absurd (by first | omega | decide) h1)
  refine sr_nil ?_
  refine aw_kp [0, 1, 6, 15] ?_
  refine aw_true rfl ?_
  refine aw_seq_region ?_
  refine sr_mv ?_
  refine sr_rd (x_conv' Try.underlying3 Try.underlying239 rfl (u64w (by omega) (by omega))) ?_
  refine sr_new rfl (wtd_none rfl) rfl (x_alloc zr239 rfl) ?_
  intro r2_2 hr2_2 gr2_2
  refine sr_x0 rfl (wtd_none rfl) (x_store sz239 rfl rfl rfl rfl rfl Repl.auto Spl.auto) ?_
  refine sr_nil ?_
  refine aw_kp [0, 1, 6, 7] ?_
  refine aw_seq_region ?_
  refine sr_mv ?_
  refine sr_d rfl (wtd_none rfl) rfl (opS_call rfl rfl rfl rfl cl175 (mPow_s (e - a) _ (by omega))) ?_
  rintro _ H9 ⟨rfl, rfl⟩
  have hpl := pow_len (show e - a ≠ 0 by omega)
  generalize 2 ^ bitLen (e - a) = mm at hpl ⊢
  refine sr_as ?_
  refine sr_nil ?_
  refine aw_kp [0, 1, 6, 7, 8] ?_
  refine aw_seq_region ?_
  refine sr_mv ?_
  refine sr_mv ?_
  refine sr_rd (x_cast (u := .int .i64 ((l : Nat) : Int)) (x_quo' (c := (((e - a) / 4 : Nat) : Int)) rfl rfl (by decide) (by rw [show (4 : Int) = ((4 : Nat) : Int) from rfl, div_t]; exact i64w (by omega) (by omega))) (by rw [hl9])) ?_
  refine sr_rd (x_cast (u := .int .i64 ((l * 2 : Nat) : Int)) (x_mul' rfl rfl (i64w (by omega) (by omega))) (by congr 1)) ?_
  refine sr_rd (x_cast (u := .int .i64 ((a + l * 2 : Nat) : Int)) (x_add' rfl rfl (i64w (by omega) (by omega))) (by congr 1)) ?_
  refine sr_rd (x_cast (u := .int .i64 ((a + l * 2 - 1 : Nat) : Int)) (x_sub' rfl rfl (i64w (by omega) (by omega))) (by congr 1; omega)) ?_
  refine sr_as ?_
  refine sr_nil ?_
  refine aw_kp [0, 1, 6, 7, 8, 9] ?_
  refine aw_block ?_
  refine aw_loop (ι := Pd3) (fun s => a ≤ s.k ∧ s.k ≤ a + l * 2 + 2 ∧ s.W.length = n ∧ Pq W a e s.W) (fun s => [(0, .slice (some ⟨b, 0, none⟩) n cap), (1, .int .i64 a), (6, .int .i64 ((e - a : Nat) : Int)), (7, .pointer (some ⟨r2_2, 0, none⟩)), (8, .int .u64 (mm : Nat)), (9, .int .i64 s.k)]) (fun s => ((r2_2, .cells [.int .u64 (s.y)].toArray 239 (0, 0)) :: (b, .cells ((s.W).flatMap intC ++ post).toArray 3 (0, 0)) :: G)) (fun s => a + l * 2 + 2 - s.k) ⟨a + l * 2 - 1, W, ((e - a : Nat) : Int)⟩ (⟨by dsimp only; omega, by dsimp only; omega, hl, Pq.refl _ _ _⟩) KeepF.auto Sub.autoP ?_
  intro s hs9
  obtain ⟨k, cur, y⟩ := s
  dsimp only at hs9 ⊢
  obtain ⟨hk1, hk2, hcl, hpq⟩ := hs9
  refine aw_seq ?_
  refine aw_seq_region ?_
  refine sr_mv ?_
  refine sr_mv ?_
  refine sr_mv ?_
  refine sr_rd (x_cast (u := .int .i64 ((l : Nat) : Int)) (x_quo' (c := (((e - a) / 4 : Nat) : Int)) rfl rfl (by decide) (by rw [show (4 : Int) = ((4 : Nat) : Int) from rfl, div_t]; exact i64w (by omega) (by omega))) (by rw [hl9])) ?_
  refine sr_rd (x_cast (u := .int .i64 ((l * 2 : Nat) : Int)) (x_mul' rfl rfl (i64w (by omega) (by omega))) (by congr 1)) ?_
  refine sr_rd (x_cast (u := .int .i64 ((a + l * 2 : Nat) : Int)) (x_add' rfl rfl (i64w (by omega) (by omega))) (by congr 1)) ?_
  refine sr_rd (x_cast (u := .int .i64 ((a + l * 2 + 1 : Nat) : Int)) (x_add' rfl rfl (i64w (by omega) (by omega))) (by congr 1)) ?_
  refine sr_c (x_le rfl rfl) (fun h2 => ?_) (fun h2 => ?_)
  · refine sr_nil ?_
    refine aw_kp [0, 1, 6, 7, 8, 9, 26, 27, 28, 29, 30, 31, 32, 33] ?_
    refine aw_true rfl ?_
    refine aw_skip ?_
    show AW _ _ _ _ _ _ _
    refine aw_seq ?_
    refine aw_block ?_
    refine aw_seq_region ?_
    refine sr_d rfl (wtd_none rfl) rfl (opS_call rfl rfl rfl rfl cl176 (AC.sub Sub.autoP (mRnd_s r2_2 y ((b, .cells ((cur).flatMap intC ++ post).toArray 3 (0, 0)) :: G)))) ?_
    rintro _ _ ⟨z, hz, rfl, rfl⟩
    obtain ⟨ot, hot⟩ : ∃ ot : Nat, ot = z.toNat &&& (mm - 1) := ⟨_, rfl⟩
    have hot2 : ot ≤ mm - 1 := hot ▸ Nat.and_le_right
    refine sr_mv ?_
    refine sr_rd (x_cast (u := .int .u64 ((mm - 1 : Nat) : Int)) (x_sub' rfl rfl (u64w (by omega) (by omega))) (by congr 1; omega)) ?_
    refine sr_rd (x_cast (u := .int .u64 ((ot : Nat) : Int)) (x_andU rfl rfl hz (by omega)) (by rw [hot]; rfl)) ?_
    refine sr_rd (x_conv' Try.underlying207 Try.underlying3 rfl (i64w (by omega) (by omega))) ?_
    refine sr_as ?_
    refine sr_nil ?_
    refine aw_kp [0, 1, 6, 7, 8, 9, 10, 26, 27, 28, 29, 30, 31, 32, 33, 36, 37, 38, 39, 40] ?_
    refine aw_join (ι := Nat) (fun o2 => o2 < e - a) (fun o2 => [(0, .slice (some ⟨b, 0, none⟩) n cap), (1, .int .i64 a), (6, .int .i64 ((e - a : Nat) : Int)), (7, .pointer (some ⟨r2_2, 0, none⟩)), (8, .int .u64 (mm : Nat)), (9, .int .i64 k), (10, .int .i64 o2)]) (fun _ => ((r2_2, .cells [.int .u64 (z)].toArray 239 (0, 0)) :: (b, .cells ((cur).flatMap intC ++ post).toArray 3 (0, 0)) :: G)) ?_ ?_
    · refine aw_seq_region ?_
      refine sr_mv ?_
      refine sr_mv ?_
      refine sr_c (x_ge rfl rfl) (fun h3 => ?_) (fun h3 => ?_)
      · refine sr_nil ?_
        refine aw_kp [0, 1, 6, 7, 8, 9, 10, 26, 27, 28, 29, 30, 31, 32, 33, 36, 37, 38, 39, 40, 41, 42, 43] ?_
        refine aw_true rfl ?_
        refine aw_region ?_
        refine sr_mv ?_
        refine sr_mv ?_
        refine sr_rd (x_cast (u := .int .i64 ((ot - (e - a) : Nat) : Int)) (x_sub' rfl rfl (i64w (by omega) (by omega))) (by congr 1; omega)) ?_
        refine sr_as ?_
        refine sr_nil ?_
        show ∃ s', _ ∧ _ ∧ _
        first | exact ⟨ot - (e - a), by omega, KeepF.auto, Sub.autoD⟩ | exact ⟨ot, by omega, KeepF.auto, Sub.autoD⟩
      · refine sr_nil ?_
        refine aw_kp [0, 1, 6, 7, 8, 9, 10, 26, 27, 28, 29, 30, 31, 32, 33, 36, 37, 38, 39, 40, 41, 42, 43] ?_
        refine aw_false rfl ?_
        refine aw_skip ?_
        show ∃ s', _ ∧ _ ∧ _
        first | exact ⟨ot - (e - a), by omega, KeepF.auto, Sub.autoD⟩ | exact ⟨ot, by omega, KeepF.auto, Sub.autoD⟩
    · intro o2 ho2
      refine aw_dr ⟨_, 20, 65, [[], [], [], [], [], [3, 4], [], [], [], [7, 8], [6, 7, 8, 9], [6, 7, 8, 9, 10], [], [], [12, 13], [12, 13, 14], [0, 1, 6, 7, 8, 9, 10, 11, 12, 13, 14, 15], [0, 1, 6, 7, 8, 9, 10, 11, 12, 13, 14, 15, 16], [0, 1, 2, 3, 4, 5, 6, 7, 8, 9, 10, 11, 12, 13, 14, 15, 16, 17], [0, 1, 2, 3, 4, 5, 6, 7, 8, 9, 10, 11, 12, 13, 14, 15, 16, 17, 18]], [.light, .light, .light, .light, .light, .light, .light, .light, .light, .light, .light, .mem, .light, .light, .light, .mem, .light, .eff, .light, .eff]⟩ (by kernel_rfl) rfl rfl mix ?_
      refine dr_l (x_move rfl) ?_
      refine dr_l (x_move rfl) ?_
      refine dr_l (x_move rfl) ?_
      refine dr_l (x_move rfl) ?_
      refine dr_l (x_move rfl) ?_
      refine dr_l (x_cast (u := .int .i64 ((a + o2 : Nat) : Int)) (x_add' rfl rfl (i64w (by omega) (by omega))) (by congr 1)) ?_
      refine dr_l (x_move rfl) ?_
      refine dr_l (x_move rfl) ?_
      refine dr_l (x_move rfl) ?_
      refine dr_l (x_cast (u := .int .i64 ((a + o2 : Nat) : Int)) (x_add' rfl rfl (i64w (by omega) (by omega))) (by congr 1)) ?_
      refine dr_l (x_indexAddrN (a + o2) Try.underlying134 sz3 rfl rfl rfl (by omega) (by omega)) ?_
      refine dr_mem0 rfl rfl (wtd_none rfl) (x_load ag3 rfl (cells_get (cells_flat0 (n := 1) (enc := intC) (fun _ => rfl) (xs := cur) (i := (a + o2)) (post := post) (show (b, Obj.cells ((cur).flatMap intC ++ post).toArray 3 (0, 0)) ∈ _ from mauto) (gd_some (by omega))) 0 rfl)) ?_
      refine dr_l (x_move rfl) ?_
      refine dr_l (x_move rfl) ?_
      refine dr_l (x_indexAddrN (k) Try.underlying134 sz3 rfl rfl rfl (by omega) (by omega)) ?_
      refine dr_mem0 rfl rfl (wtd_none rfl) (x_load ag3 rfl (cells_get (cells_flat0 (n := 1) (enc := intC) (fun _ => rfl) (xs := cur) (i := k) (post := post) (show (b, Obj.cells ((cur).flatMap intC ++ post).toArray 3 (0, 0)) ∈ _ from mauto) (gd_some (by omega))) 0 rfl)) ?_
      refine dr_l (x_indexAddrN (k) Try.underlying134 sz3 rfl rfl rfl (by omega) (by omega)) ?_
      refine dr_store0 rfl rfl (wtd_none rfl) (x_store sz3 rfl rfl rfl rfl rfl Repl.auto (spl_flat0 (n := 1) (enc := intC) (fun _ => rfl) (xs := cur) (post := post) (i := (k)) (x' := gd cur (a + o2)) (by first | omega | (rw [List.length_set]; omega)))) (by first | rfl | simp [keys_append, keys_cons]) ?_
      refine dr_l (x_indexAddrN (a + o2) Try.underlying134 sz3 rfl rfl rfl (by omega) (by omega)) ?_
      refine dr_store0 rfl rfl (wtd_none rfl) (x_store sz3 rfl rfl rfl rfl rfl Repl.auto (spl_flat0 (n := 1) (enc := intC) (fun _ => rfl) (xs := ((cur).set (k) (gd cur (a + o2)))) (post := post) (i := (a + o2)) (x' := gd cur (k)) (by first | omega | (rw [List.length_set]; omega)))) (by first | rfl | simp [keys_append, keys_cons]) ?_
      refine dr_nil0 ?_
      show AW _ _ _ _ _ _ _
      refine aw_region ?_
      refine sr_mv ?_
      refine sr_rd (x_cast (u := .int .i64 ((k + 1 : Nat) : Int)) (x_add' rfl rfl (i64w (by omega) (by omega))) (by congr 1)) ?_
      refine sr_as ?_
      refine sr_nil ?_
      show ∃ s', _ ∧ _ ∧ _ ∧ _
      exact ⟨⟨k + 1, sw cur k (a + o2), z⟩, ⟨by dsimp only; omega, by dsimp only; omega, sw_len.trans hcl, hpq.trans (Pq.sw (by omega) (by omega) (by omega))⟩, by dsimp only; omega, KeepF.auto, Sub.autoP⟩
  · refine sr_nil ?_
    refine aw_kp [0, 1, 6, 7, 8, 9, 26, 27, 28, 29, 30, 31, 32, 33] ?_
    refine aw_false rfl ?_
    refine aw_exit ?_
    show ∃ v H2, ResV _ _ _ _ _ _ v ∧ Sub H2 _ ∧ _
    exact ⟨_, _, resV rfl .nil, Sub.autoP, cur, hpq, rfl, rfl⟩
set_option maxRecDepth 100000 in
set_option maxHeartbeats 8000000 in
theorem mPdqW_s (b cap n : Nat) (W : List Int) (post : List Value) (G : SHeap) (hl : W.length = n) (hn : n ≤ 100000) (hcap : n ≤ cap) (hcb : cap ≤ 9223372036854775807) (a0 e0 : Nat) (h1 : a0 ≤ e0) (h2 : e0 ≤ n) (h256 : n < 256) (lim0 : Int) (hlim0 : 0 ≤ lim0 ∧ lim0 ≤ 64) (hpr0 : (0 < a0 → Al W a0 e0 (fun x => gd W (a0 - 1) ≤ x))) (ih : ∀ (W1 : List Int) (a1 e1 : Nat) (l1 : Int), W1.length = n → e1 - a1 < e0 - a0 → a1 ≤ e1 → e1 ≤ n → (0 ≤ l1 ∧ l1 ≤ 64) → (0 < a1 → Al W1 a1 e1 (fun x => gd W1 (a1 - 1) ≤ x)) → AC Try.prog W0 146 [.slice (some ⟨b, 0, none⟩) n cap, .int .i64 (a1 : Nat), .int .i64 (e1 : Nat), .int .i64 l1] ((b, .cells ((W1).flatMap intC ++ post).toArray 3 (0, 0)) :: G) (fun v H' => ∃ W', (Pq W1 a1 e1 W' ∧ SrI W' a1 e1) ∧ v = .tuple #[] ∧ H' = (b, .cells ((W').flatMap intC ++ post).toArray 3 (0, 0)) :: G)) : AC Try.prog W0 146 [.slice (some ⟨b, 0, none⟩) n cap, .int .i64 (a0 : Nat), .int .i64 (e0 : Nat), .int .i64 lim0] ((b, .cells ((W).flatMap intC ++ post).toArray 3 (0, 0)) :: G) (fun v H' => ∃ W', (Pq W a0 e0 W' ∧ SrI W' a0 e0) ∧ v = .tuple #[] ∧ H' = (b, .cells ((W').flatMap intC ++ post).toArray 3 (0, 0)) :: G) := by
  refine ac_of Try.func146 rfl rfl rfl ?_
  refine aw_seq_region ?_
  refine sr_as ?_
  refine sr_nil ?_
  refine aw_kp [0, 1, 2, 3, 8] ?_
  refine aw_seq_region ?_
  refine sr_as ?_
  refine sr_nil ?_
  refine aw_kp [0, 1, 2, 3, 8, 9] ?_
  refine aw_block ?_
  refine aw_loop (ι := Pd4) (fun s => s.W.length = n ∧ (0 ≤ s.lim ∧ s.lim ≤ 64) ∧ PdI W a0 e0 s.W s.a s.e) (fun s => [(0, .slice (some ⟨b, 0, none⟩) n cap), (1, .int .i64 s.a), (2, .int .i64 s.e), (3, .int .i64 s.lim), (8, .bool s.b1), (9, .bool s.b2)]) (fun s => (b, .cells ((s.W).flatMap intC ++ post).toArray 3 (0, 0)) :: G) (fun s => s.e - s.a) ⟨a0, e0, lim0, W, true, true⟩ (⟨hl, hlim0, PdI.start h1⟩) KeepF.auto Sub.autoP ?_
  intro s hs9
  obtain ⟨a, e, lim, cur, b1, b2⟩ := s
  dsimp only at hs9 ⊢
  obtain ⟨hcl, hlim, hI⟩ := hs9
  have hb := hI.b
  refine aw_block ?_
  refine aw_seq_region ?_
  refine sr_mv ?_
  refine sr_mv ?_
  refine sr_rd (x_cast (u := .int .i64 ((e - a : Nat) : Int)) (x_sub' rfl rfl (i64w (by omega) (by omega))) (by congr 1; omega)) ?_
  refine sr_as ?_
  refine sr_nil ?_
  refine aw_kp [0, 1, 2, 3, 8, 9, 10, 19, 20, 21] ?_
  refine aw_seq ?_
  refine aw_seq_region ?_
  refine sr_mv ?_
  refine sr_c (x_le rfl rfl) (fun h1 => ?_) (fun h1 => ?_)
  · refine sr_nil ?_
    refine aw_kp [0, 1, 2, 3, 8, 9, 10, 19, 20, 21, 22, 23] ?_
    refine aw_true rfl ?_
    refine aw_seq_region ?_
    refine sr_mv ?_
    refine sr_mv ?_
    refine sr_mv ?_
    refine sr_d rfl (wtd_none rfl) rfl (opS_call rfl rfl rfl rfl cl156 (AC.sub Sub.autoP (mIns_s b cap n cur post G (by omega) hn hcap hcb a e (by omega) (by omega)))) ?_
    rintro _ _ ⟨W9, ⟨hP9, hs9⟩, rfl, rfl⟩
    refine sr_nil ?_
    refine aw_kp [0, 1, 2, 3, 8, 9, 10, 19, 20, 21, 22, 23, 24, 25, 26] ?_
    refine aw_ret ?_
    show ∃ v H2, ResV _ _ _ _ _ _ v ∧ Sub H2 _ ∧ _
    first | exact ⟨_, _, resV rfl .nil, Sub.refl _, W7, (hI2.mv hP7).fin (hs7 rfl), rfl, rfl⟩ | exact ⟨_, _, resV rfl .nil, Sub.refl _, W9, (hI.mv hP9).fin hs9, rfl, rfl⟩
  · refine sr_nil ?_
    refine aw_kp [0, 1, 2, 3, 8, 9, 10, 19, 20, 21, 22, 23] ?_
    refine aw_false rfl ?_
    refine aw_skip ?_
    show AW _ _ _ _ _ _ _
    refine aw_seq ?_
    refine aw_seq_region ?_
    refine sr_mv ?_
    refine sr_c (x_eq rfl rfl) (fun h2 => ?_) (fun h2 => ?_)
    · refine sr_nil ?_
      refine aw_kp [0, 1, 2, 3, 8, 9, 10, 19, 20, 21, 22, 23, 28, 29] ?_
      refine aw_true rfl ?_
      refine aw_seq_region ?_
      refine sr_mv ?_
      refine sr_mv ?_
      refine sr_mv ?_
      refine sr_d rfl (wtd_none rfl) rfl (opS_call rfl rfl rfl rfl cl157 (AC.sub Sub.autoP (mHeap_s b cap n cur post G (by omega) hn hcap hcb a e (by omega) (by omega)))) ?_
      rintro _ _ ⟨W9, ⟨hP9, hs9⟩, rfl, rfl⟩
      refine sr_nil ?_
      refine aw_kp [0, 1, 2, 3, 8, 9, 10, 19, 20, 21, 22, 23, 28, 29, 30, 31, 32] ?_
      refine aw_ret ?_
      show ∃ v H2, ResV _ _ _ _ _ _ v ∧ Sub H2 _ ∧ _
      first | exact ⟨_, _, resV rfl .nil, Sub.refl _, W7, (hI2.mv hP7).fin (hs7 rfl), rfl, rfl⟩ | exact ⟨_, _, resV rfl .nil, Sub.refl _, W9, (hI.mv hP9).fin hs9, rfl, rfl⟩
    · refine sr_nil ?_
      refine aw_kp [0, 1, 2, 3, 8, 9, 10, 19, 20, 21, 22, 23, 28, 29] ?_
      refine aw_false rfl ?_
      refine aw_skip ?_
      show AW _ _ _ _ _ _ _
      refine aw_join (ι := Pd3) (fun s => s.W.length = n ∧ Pq cur a e s.W ∧ (0 ≤ s.y ∧ s.y ≤ 64)) (fun s => [(0, .slice (some ⟨b, 0, none⟩) n cap), (1, .int .i64 a), (2, .int .i64 e), (3, .int .i64 s.y), (8, .bool b1), (9, .bool b2), (10, .int .i64 ((e - a : Nat) : Int))]) (fun s => (b, .cells ((s.W).flatMap intC ++ post).toArray 3 (0, 0)) :: G) ?_ ?_
      · refine aw_seq_region ?_
        refine sr_mv ?_
        refine sr_rd (x_not rfl) ?_
        refine sr_nil ?_
        refine aw_kp [0, 1, 2, 3, 8, 9, 10, 19, 20, 21, 22, 23, 28, 29, 34, 35] ?_
        refine aw_cond rfl (fun hb3 => ?_) (fun hb3 => ?_)
        · refine aw_seq_region ?_
          refine sr_mv ?_
          refine sr_mv ?_
          refine sr_mv ?_
          refine sr_d rfl (wtd_none rfl) rfl (opS_call rfl rfl rfl rfl cl158 (AC.sub Sub.autoP (mBrk_s b cap n cur post G (by omega) hn hcap hcb a e (by omega) (by omega) (by omega)))) ?_
          rintro _ _ ⟨W9, hP9, rfl, rfl⟩
          refine sr_nil ?_
          refine aw_kp [0, 1, 2, 3, 8, 9, 10, 19, 20, 21, 22, 23, 28, 29, 34, 35, 36, 37, 38] ?_
          refine aw_region ?_
          refine sr_mv ?_
          refine sr_rd (x_sub' rfl rfl (i64w (by omega) (by omega))) ?_
          refine sr_as ?_
          refine sr_nil ?_
          show ∃ s', _ ∧ _ ∧ _
          first | exact ⟨⟨0, W9, lim - 1⟩, ⟨hP9.1.length_eq.trans hcl, hP9, by dsimp only; omega⟩, KeepF.auto, Sub.autoD⟩ | exact ⟨⟨0, cur, lim⟩, ⟨hcl, Pq.refl _ _ _, hlim⟩, KeepF.auto, Sub.autoD⟩
        · refine aw_skip ?_
          show ∃ s', _ ∧ _ ∧ _
          first | exact ⟨⟨0, W9, lim - 1⟩, ⟨hP9.1.length_eq.trans hcl, hP9, by dsimp only; omega⟩, KeepF.auto, Sub.autoD⟩ | exact ⟨⟨0, cur, lim⟩, ⟨hcl, Pq.refl _ _ _, hlim⟩, KeepF.auto, Sub.autoD⟩
      · intro s1 hs1
        obtain ⟨k1, cur1, lim1⟩ := s1
        dsimp only at hs1 ⊢
        obtain ⟨hl1, hP1, hlim1⟩ := hs1
        have hI1 := hI.mv hP1
        refine aw_seq_region ?_
        refine sr_mv ?_
        refine sr_mv ?_
        refine sr_mv ?_
        refine sr_d rfl (wtd_none rfl) rfl (opS_call rfl rfl rfl rfl cl159 (AC.sub Sub.autoP (mPiv_s b cap n cur1 post G (by omega) hn hcap hcb a e (by omega) (by omega)))) ?_
        rintro _ _ ⟨m8, h8, hm8, rfl, rfl⟩
        refine sr_mv ?_
        refine sr_rd (x_extract rfl rfl) ?_
        refine sr_rd (x_extract rfl rfl) ?_
        refine sr_as ?_
        refine sr_as ?_
        refine sr_nil ?_
        refine aw_kp [0, 1, 2, 3, 8, 9, 10, 11, 12, 42, 43, 44, 45, 46, 47, 48] ?_
        refine aw_join (ι := Pd3) (fun s => s.W.length = n ∧ Pq cur1 a e s.W ∧ (a ≤ s.k ∧ s.k < e)) (fun s => [(0, .slice (some ⟨b, 0, none⟩) n cap), (1, .int .i64 a), (2, .int .i64 e), (3, .int .i64 lim1), (8, .bool b1), (9, .bool b2), (10, .int .i64 ((e - a : Nat) : Int)), (11, .int .i64 s.k), (12, .int .i64 s.y)]) (fun s => (b, .cells ((s.W).flatMap intC ++ post).toArray 3 (0, 0)) :: G) ?_ ?_
        · refine aw_seq_region ?_
          refine sr_mv ?_
          refine sr_c (x_eq rfl rfl) (fun h4 => ?_) (fun h4 => ?_)
          · refine sr_nil ?_
            refine aw_kp [0, 1, 2, 3, 8, 9, 10, 11, 12, 42, 43, 44, 45, 46, 47, 48, 49, 50] ?_
            refine aw_true rfl ?_
            refine aw_seq_region ?_
            refine sr_mv ?_
            refine sr_mv ?_
            refine sr_mv ?_
            refine sr_d rfl (wtd_none rfl) rfl (opS_call rfl rfl rfl rfl cl160 (AC.sub Sub.autoP (mRev_s b cap n cur1 post G (by omega) hn hcap hcb a e (by omega) (by omega)))) ?_
            rintro _ _ ⟨W9, hP9, rfl, rfl⟩
            refine sr_nil ?_
            refine aw_kp [0, 1, 2, 3, 8, 9, 10, 11, 12, 42, 43, 44, 45, 46, 47, 48, 49, 50, 51, 52, 53] ?_
            refine aw_seq_region ?_
            refine sr_mv ?_
            refine sr_rd (x_cast (u := .int .i64 ((e - 1 : Nat) : Int)) (x_sub' rfl rfl (i64w (by omega) (by omega))) (by congr 1; omega)) ?_
            refine sr_mv ?_
            refine sr_mv ?_
            refine sr_rd (x_cast (u := .int .i64 ((m8 - a : Nat) : Int)) (x_sub' rfl rfl (i64w (by omega) (by omega))) (by congr 1; omega)) ?_
            refine sr_rd (x_cast (u := .int .i64 ((e - 1 - (m8 - a) : Nat) : Int)) (x_sub' rfl rfl (i64w (by omega) (by omega))) (by congr 1; omega)) ?_
            refine sr_as ?_
            refine sr_nil ?_
            refine aw_kp [0, 1, 2, 3, 8, 9, 10, 11, 12, 42, 43, 44, 45, 46, 47, 48, 49, 50, 51, 52, 53, 55, 56, 57, 58, 59, 60] ?_
            refine aw_region ?_
            refine sr_as ?_
            refine sr_nil ?_
            show ∃ s', _ ∧ _ ∧ _
            first | exact ⟨⟨e - 1 - (m8 - a), W9, 1⟩, ⟨hP9.1.length_eq.trans hl1, hP9, by dsimp only; omega⟩, KeepF.auto, Sub.autoD⟩ | exact ⟨⟨m8, cur1, h8⟩, ⟨hl1, Pq.refl _ _ _, hm8⟩, KeepF.auto, Sub.autoD⟩
          · refine sr_nil ?_
            refine aw_kp [0, 1, 2, 3, 8, 9, 10, 11, 12, 42, 43, 44, 45, 46, 47, 48, 49, 50] ?_
            refine aw_false rfl ?_
            refine aw_skip ?_
            show ∃ s', _ ∧ _ ∧ _
            first | exact ⟨⟨e - 1 - (m8 - a), W9, 1⟩, ⟨hP9.1.length_eq.trans hl1, hP9, by dsimp only; omega⟩, KeepF.auto, Sub.autoD⟩ | exact ⟨⟨m8, cur1, h8⟩, ⟨hl1, Pq.refl _ _ _, hm8⟩, KeepF.auto, Sub.autoD⟩
        · intro s2 hs2
          obtain ⟨q, cur2, hint⟩ := s2
          dsimp only at hs2 ⊢
          obtain ⟨hl2, hP2, hq1, hq2⟩ := hs2
          have hI2 := hI1.mv hP2
          have hpr2 := hI2.pr hpr0
          refine aw_join (ι := Pd1) (fun s => s.W.length = n ∧ Pq cur2 a e s.W) (fun s => [(0, .slice (some ⟨b, 0, none⟩) n cap), (1, .int .i64 a), (2, .int .i64 e), (3, .int .i64 lim1), (8, .bool b1), (9, .bool b2), (10, .int .i64 ((e - a : Nat) : Int)), (11, .int .i64 q)]) (fun s => (b, .cells ((s.W).flatMap intC ++ post).toArray 3 (0, 0)) :: G) ?_ ?_
          · refine aw_seq_region ?_
            cases b1
            · refine sr_mv ?_
              refine sr_mv ?_
              refine sr_sk ?_
              refine sr_rd (x_pick_f rfl rfl rfl) ?_
              refine sr_mv ?_
              refine sr_sk ?_
              refine sr_sk ?_
              refine sr_rd (x_pick_f rfl rfl rfl) ?_
              refine sr_nil ?_
              refine aw_kp [0, 1, 2, 3, 8, 9, 10, 11, 12, 61, 62, 63, 64, 65, 66, 67, 68] ?_
              refine aw_false rfl ?_
              refine aw_skip ?_
              show ∃ s', _ ∧ _ ∧ _
              first | exact ⟨⟨0, W7⟩, ⟨hP7.1.length_eq.trans hl2, hP7⟩, KeepF.auto, Sub.autoD⟩ | exact ⟨⟨0, cur2⟩, ⟨hl2, Pq.refl _ _ _⟩, KeepF.auto, Sub.autoD⟩
            · refine sr_mv ?_
              refine sr_mv ?_
              cases b2
              · refine sr_ry (x_move rfl) ?_
                refine sr_rd (x_pick_t rfl rfl rfl) ?_
                refine sr_mv ?_
                refine sr_sk ?_
                refine sr_sk ?_
                refine sr_rd (x_pick_f rfl rfl rfl) ?_
                refine sr_nil ?_
                refine aw_kp [0, 1, 2, 3, 8, 9, 10, 11, 12, 61, 62, 63, 64, 65, 66, 67, 68] ?_
                refine aw_false rfl ?_
                refine aw_skip ?_
                show ∃ s', _ ∧ _ ∧ _
                first | exact ⟨⟨0, W7⟩, ⟨hP7.1.length_eq.trans hl2, hP7⟩, KeepF.auto, Sub.autoD⟩ | exact ⟨⟨0, cur2⟩, ⟨hl2, Pq.refl _ _ _⟩, KeepF.auto, Sub.autoD⟩
              · refine sr_ry (x_move rfl) ?_
                refine sr_rd (x_pick_t rfl rfl rfl) ?_
                refine sr_mv ?_
                refine sr_ry (x_move rfl) ?_
                refine sr_cy (x_eq rfl rfl) (fun h5 => ?_) (fun h5 => ?_)
                · refine sr_rd (x_pick_t rfl rfl rfl) ?_
                  refine sr_nil ?_
                  refine aw_kp [0, 1, 2, 3, 8, 9, 10, 11, 12, 61, 62, 63, 64, 65, 66, 67, 68] ?_
                  refine aw_true rfl ?_
                  refine aw_seq_region ?_
                  refine sr_mv ?_
                  refine sr_mv ?_
                  refine sr_mv ?_
                  refine sr_d rfl (wtd_none rfl) rfl (opS_call rfl rfl rfl rfl cl161 (AC.sub Sub.autoP (mPis_s b cap n cur2 post G (by omega) hn hcap hcb a e (by omega) (by omega) hpr2))) ?_
                  rintro _ _ ⟨W7, b7, hP7, hs7, rfl, rfl⟩
                  cases b7
                  · refine sr_nil ?_
                    refine aw_kp [0, 1, 2, 3, 8, 9, 10, 11, 12, 61, 62, 63, 64, 65, 66, 67, 68, 69, 70, 71, 72] ?_
                    refine aw_false rfl ?_
                    refine aw_skip ?_
                    show ∃ s', _ ∧ _ ∧ _
                    first | exact ⟨⟨0, W7⟩, ⟨hP7.1.length_eq.trans hl2, hP7⟩, KeepF.auto, Sub.autoD⟩ | exact ⟨⟨0, cur2⟩, ⟨hl2, Pq.refl _ _ _⟩, KeepF.auto, Sub.autoD⟩
                  · refine sr_nil ?_
                    refine aw_kp [0, 1, 2, 3, 8, 9, 10, 11, 12, 61, 62, 63, 64, 65, 66, 67, 68, 69, 70, 71, 72] ?_
                    refine aw_true rfl ?_
                    refine aw_ret ?_
                    show ∃ v H2, ResV _ _ _ _ _ _ v ∧ Sub H2 _ ∧ _
                    first | exact ⟨_, _, resV rfl .nil, Sub.refl _, W7, (hI2.mv hP7).fin (hs7 rfl), rfl, rfl⟩ | exact ⟨_, _, resV rfl .nil, Sub.refl _, W9, (hI.mv hP9).fin hs9, rfl, rfl⟩
                · refine sr_rd (x_pick_t rfl rfl rfl) ?_
                  refine sr_nil ?_
                  refine aw_kp [0, 1, 2, 3, 8, 9, 10, 11, 12, 61, 62, 63, 64, 65, 66, 67, 68] ?_
                  refine aw_false rfl ?_
                  refine aw_skip ?_
                  show ∃ s', _ ∧ _ ∧ _
                  first | exact ⟨⟨0, W7⟩, ⟨hP7.1.length_eq.trans hl2, hP7⟩, KeepF.auto, Sub.autoD⟩ | exact ⟨⟨0, cur2⟩, ⟨hl2, Pq.refl _ _ _⟩, KeepF.auto, Sub.autoD⟩
          · intro s3 hs3
            obtain ⟨k3, cur3⟩ := s3
            dsimp only at hs3 ⊢
            obtain ⟨hl3, hP3⟩ := hs3
            have hI3 := hI2.mv hP3
            have hpr3 := hI3.pr hpr0
            refine aw_seq ?_
            refine aw_seq_dr ⟨_, 15, 134, [[], [0], [0, 1], [0, 1, 2], [0, 1, 2], [0, 1, 2, 4], [0, 1, 2, 3, 4, 5], [0, 1, 2, 3, 4, 5, 6], [0, 1, 2], [0, 1, 2], [0, 1, 2, 8, 9], [0, 1, 2, 8, 9, 10], [0, 1, 2, 3, 4, 5, 6, 7, 8, 9, 10, 11], [0, 1, 2, 3, 4, 5, 6, 7, 8, 9, 10, 11, 12], [0, 1, 2, 3, 4, 5, 6, 7, 8, 9, 10, 11, 12, 13]], [.light, .light, .light, .light, .light, .light, .light, .mem, .light, .light, .light, .mem, .call, .light, .light]⟩ (by kernel_rfl) rfl rfl mix ?_
            refine dr_l (x_move rfl) ?_
            refine dr_cmp rfl rfl (wtd_none rfl) (x_gt rfl rfl) (fun h6 => ?_) (fun h6 => ?_)
            · refine dr_l (x_move rfl) ?_
              refine dr_y (x_move rfl) ?_
              refine dr_y (x_move rfl) ?_
              refine dr_y (x_cast (u := .int .i64 ((a - 1 : Nat) : Int)) (x_sub' rfl rfl (i64w (by omega) (by omega))) (by congr 1; omega)) ?_
              refine dr_y (x_indexAddrN (a - 1) Try.underlying134 sz3 rfl rfl rfl (by omega) (by omega)) ?_
              refine dr_mem0 rfl rfl (wtd_yes rfl rfl rfl) (x_load ag3 rfl (cells_get (cells_flat0 (n := 1) (enc := intC) (fun _ => rfl) (xs := cur3) (i := (a - 1)) (post := post) (show (b, Obj.cells ((cur3).flatMap intC ++ post).toArray 3 (0, 0)) ∈ _ from mauto) (gd_some (by omega))) 0 rfl)) ?_
              refine dr_y (x_move rfl) ?_
              refine dr_y (x_move rfl) ?_
              refine dr_y (x_indexAddrN (q) Try.underlying134 sz3 rfl rfl rfl (by omega) (by omega)) ?_
              refine dr_mem0 rfl rfl (wtd_yes rfl rfl rfl) (x_load ag3 rfl (cells_get (cells_flat0 (n := 1) (enc := intC) (fun _ => rfl) (xs := cur3) (i := q) (post := post) (show (b, Obj.cells ((cur3).flatMap intC ++ post).toArray 3 (0, 0)) ∈ _ from mauto) (gd_some (by omega))) 0 rfl)) ?_
              refine dr_callq0 rfl rfl (wtd_yes rfl rfl rfl) (opS_F rfl rfl rfl rfl cl162 ((mLess_s (gd cur3 (a - 1)) (gd cur3 q) _))) (⟨_, rfl⟩) ?_
              rintro _ rfl
              generalize hdL : decide (gd cur3 (a - 1) < gd cur3 q) = dL
              cases dL
              · refine dr_y (x_not rfl) ?_
                refine dr_l (x_pick_t rfl rfl rfl) ?_
                refine dr_nil0 ?_
                refine aw_kp [0, 1, 2, 3, 8, 9, 10, 11, 73, 74, 75, 76, 77, 78, 79, 80, 81, 82, 83, 84, 85, 86, 87] ?_
                refine aw_true rfl ?_
                refine aw_seq_region ?_
                refine sr_mv ?_
                refine sr_mv ?_
                refine sr_mv ?_
                refine sr_mv ?_
                refine sr_d rfl (wtd_none rfl) rfl (opS_call rfl rfl rfl rfl cl163 (AC.sub Sub.autoP (mPeq_s b cap n cur3 post G (by omega) hn hcap hcb a e q (by omega) (by omega) (by omega)))) ?_
                rintro _ _ ⟨W9, m9, hm1, hm2, hP9, hA9, hB9, rfl, rfl⟩
                refine sr_as ?_
                refine sr_nil ?_
                refine aw_kp [0, 1, 2, 3, 8, 9, 10, 11, 13, 73, 74, 75, 76, 77, 78, 79, 80, 81, 82, 83, 84, 85, 86, 87, 88, 89, 90, 91, 92] ?_
                refine aw_seq_region ?_
                refine sr_mv ?_
                refine sr_as ?_
                refine sr_nil ?_
                refine aw_kp [0, 1, 2, 3, 8, 9, 10, 11, 13, 73, 74, 75, 76, 77, 78, 79, 80, 81, 82, 83, 84, 85, 86, 87, 88, 89, 90, 91, 92, 93] ?_
                refine aw_exit ?_
                show ∃ s', _ ∧ _ ∧ _ ∧ _
                exact ⟨⟨m9, e, lim1, W9, b1, b2⟩, ⟨hP9.1.length_eq.trans hl3, hlim1, hI3.peq hpr3 (by omega) hP9 ⟨hm1, hm2⟩ hA9 hB9 (of_decide_eq_false hdL)⟩, by dsimp only; omega, KeepF.auto, Sub.autoP⟩
              · refine dr_y (x_not rfl) ?_
                refine dr_l (x_pick_t rfl rfl rfl) ?_
                refine dr_nil0 ?_
                refine aw_kp [0, 1, 2, 3, 8, 9, 10, 11, 73, 74, 75, 76, 77, 78, 79, 80, 81, 82, 83, 84, 85, 86, 87] ?_
                refine aw_false rfl ?_
                refine aw_skip ?_
                show AW _ _ _ _ _ _ _
                refine aw_seq_region ?_
                refine sr_mv ?_
                refine sr_mv ?_
                refine sr_mv ?_
                refine sr_mv ?_
                refine sr_d rfl (wtd_none rfl) rfl (opS_call rfl rfl rfl rfl cl164 (AC.sub Sub.autoP (mPart_s b cap n cur3 post G (by omega) hn hcap hcb a e q (by omega) (by omega) (by omega)))) ?_
                rintro _ _ ⟨W9, m9, hm1, hm2, hP9, ⟨hA9, hp9, hB9⟩, ⟨bb, rfl⟩, rfl⟩
                have hl9 := hP9.1.length_eq.trans hl3
                have hpr9 := hP9.pr hpr3
                refine sr_mv ?_
                refine sr_rd (x_extract rfl rfl) ?_
                refine sr_rd (x_extract rfl rfl) ?_
                refine sr_as ?_
                refine sr_as ?_
                refine sr_nil ?_
                refine aw_kp [0, 1, 2, 3, 8, 9, 10, 11, 14, 15, 73, 74, 75, 76, 77, 78, 79, 80, 81, 82, 83, 84, 85, 86, 87, 94, 95, 96, 97, 98, 99, 100, 101] ?_
                refine aw_seq_region ?_
                refine sr_mv ?_
                refine sr_as ?_
                refine sr_nil ?_
                refine aw_kp [0, 1, 2, 3, 8, 9, 10, 11, 14, 15, 73, 74, 75, 76, 77, 78, 79, 80, 81, 82, 83, 84, 85, 86, 87, 94, 95, 96, 97, 98, 99, 100, 101, 102] ?_
                refine aw_seq_region ?_
                refine sr_mv ?_
                refine sr_mv ?_
                refine sr_rd (x_cast (u := .int .i64 ((m9 - a : Nat) : Int)) (x_sub' rfl rfl (i64w (by omega) (by omega))) (by congr 1; omega)) ?_
                refine sr_mv ?_
                refine sr_mv ?_
                refine sr_rd (x_cast (u := .int .i64 ((e - m9 : Nat) : Int)) (x_sub' rfl rfl (i64w (by omega) (by omega))) (by congr 1; omega)) ?_
                refine sr_as ?_
                refine sr_as ?_
                refine sr_nil ?_
                refine aw_kp [0, 1, 2, 3, 8, 9, 10, 11, 14, 15, 16, 17, 73, 74, 75, 76, 77, 78, 79, 80, 81, 82, 83, 84, 85, 86, 87, 94, 95, 96, 97, 98, 99, 100, 101, 102, 103, 104, 105, 106, 107, 108] ?_
                refine aw_seq_region ?_
                refine sr_mv ?_
                refine sr_rd (x_cast (u := .int .i64 (((e - a) / 8 : Nat) : Int)) (x_quo' (c := (((e - a) / 8 : Nat) : Int)) rfl rfl (by decide) (by rw [show (8 : Int) = ((8 : Nat) : Int) from rfl, div_t]; exact i64w (by omega) (by omega))) rfl) ?_
                refine sr_as ?_
                refine sr_nil ?_
                refine aw_kp [0, 1, 2, 3, 8, 9, 10, 11, 14, 15, 16, 17, 18, 73, 74, 75, 76, 77, 78, 79, 80, 81, 82, 83, 84, 85, 86, 87, 94, 95, 96, 97, 98, 99, 100, 101, 102, 103, 104, 105, 106, 107, 108, 109, 110] ?_
                refine aw_seq_region ?_
                refine sr_mv ?_
                refine sr_mv ?_
                refine sr_c (x_lt rfl rfl) (fun h7 => ?_) (fun h7 => ?_)
                · refine sr_nil ?_
                  refine aw_kp [0, 1, 2, 3, 8, 9, 10, 11, 14, 15, 16, 17, 18, 73, 74, 75, 76, 77, 78, 79, 80, 81, 82, 83, 84, 85, 86, 87, 94, 95, 96, 97, 98, 99, 100, 101, 102, 103, 104, 105, 106, 107, 108, 109, 110, 111, 112, 113] ?_
                  refine aw_true rfl ?_
                  refine aw_seq_region ?_
                  refine sr_mv ?_
                  refine sr_mv ?_
                  refine sr_c (x_ge rfl rfl) (fun h8 => ?_) (fun h8 => ?_)
                  · refine sr_as ?_
                    refine sr_nil ?_
                    refine aw_kp [0, 1, 2, 3, 8, 9, 10, 11, 14, 15, 16, 17, 18, 73, 74, 75, 76, 77, 78, 79, 80, 81, 82, 83, 84, 85, 86, 87, 94, 95, 96, 97, 98, 99, 100, 101, 102, 103, 104, 105, 106, 107, 108, 109, 110, 111, 112, 113, 114, 115, 116] ?_
                    refine aw_seq_region ?_
                    refine sr_mv ?_
                    refine sr_mv ?_
                    refine sr_mv ?_
                    refine sr_mv ?_
                    refine sr_d rfl (wtd_none rfl) rfl (opS_call rfl rfl rfl rfl cl146 (AC.sub Sub.autoP (ih W9 a m9 lim1 hl9 (by omega) (by omega) (by omega) hlim1 (fun q1 => (hpr9 q1).mono (Nat.le_refl _) (by omega))))) ?_
                    rintro _ _ ⟨W8, ⟨hP8, hs8⟩, rfl, rfl⟩
                    refine sr_nil ?_
                    refine aw_kp [0, 1, 2, 3, 8, 9, 10, 11, 14, 15, 16, 17, 18, 73, 74, 75, 76, 77, 78, 79, 80, 81, 82, 83, 84, 85, 86, 87, 94, 95, 96, 97, 98, 99, 100, 101, 102, 103, 104, 105, 106, 107, 108, 109, 110, 111, 112, 113, 114, 115, 116, 117, 118, 119, 120] ?_
                    refine aw_region ?_
                    refine sr_mv ?_
                    refine sr_rd (x_cast (u := .int .i64 ((m9 + 1 : Nat) : Int)) (x_add' rfl rfl (i64w (by omega) (by omega))) (by congr 1)) ?_
                    refine sr_as ?_
                    refine sr_nil ?_
                    show ∃ s', _ ∧ _ ∧ _ ∧ _
                    exact ⟨⟨m9 + 1, e, lim1, W8, true, bb⟩, ⟨hP8.1.length_eq.trans (hP9.1.length_eq.trans hl3), hlim1, hI3.partL hP9 ⟨hm1, hm2⟩ hA9 hp9 hB9 hP8 hs8⟩, by dsimp only; omega, KeepF.auto, Sub.autoP⟩
                  · refine sr_as ?_
                    refine sr_nil ?_
                    refine aw_kp [0, 1, 2, 3, 8, 9, 10, 11, 14, 15, 16, 17, 18, 73, 74, 75, 76, 77, 78, 79, 80, 81, 82, 83, 84, 85, 86, 87, 94, 95, 96, 97, 98, 99, 100, 101, 102, 103, 104, 105, 106, 107, 108, 109, 110, 111, 112, 113, 114, 115, 116] ?_
                    refine aw_seq_region ?_
                    refine sr_mv ?_
                    refine sr_mv ?_
                    refine sr_mv ?_
                    refine sr_mv ?_
                    refine sr_d rfl (wtd_none rfl) rfl (opS_call rfl rfl rfl rfl cl146 (AC.sub Sub.autoP (ih W9 a m9 lim1 hl9 (by omega) (by omega) (by omega) hlim1 (fun q1 => (hpr9 q1).mono (Nat.le_refl _) (by omega))))) ?_
                    rintro _ _ ⟨W8, ⟨hP8, hs8⟩, rfl, rfl⟩
                    refine sr_nil ?_
                    refine aw_kp [0, 1, 2, 3, 8, 9, 10, 11, 14, 15, 16, 17, 18, 73, 74, 75, 76, 77, 78, 79, 80, 81, 82, 83, 84, 85, 86, 87, 94, 95, 96, 97, 98, 99, 100, 101, 102, 103, 104, 105, 106, 107, 108, 109, 110, 111, 112, 113, 114, 115, 116, 117, 118, 119, 120] ?_
                    refine aw_region ?_
                    refine sr_mv ?_
                    refine sr_rd (x_cast (u := .int .i64 ((m9 + 1 : Nat) : Int)) (x_add' rfl rfl (i64w (by omega) (by omega))) (by congr 1)) ?_
                    refine sr_as ?_
                    refine sr_nil ?_
                    show ∃ s', _ ∧ _ ∧ _ ∧ _
                    exact ⟨⟨m9 + 1, e, lim1, W8, false, bb⟩, ⟨hP8.1.length_eq.trans (hP9.1.length_eq.trans hl3), hlim1, hI3.partL hP9 ⟨hm1, hm2⟩ hA9 hp9 hB9 hP8 hs8⟩, by dsimp only; omega, KeepF.auto, Sub.autoP⟩
                · refine sr_nil ?_
                  refine aw_kp [0, 1, 2, 3, 8, 9, 10, 11, 14, 15, 16, 17, 18, 73, 74, 75, 76, 77, 78, 79, 80, 81, 82, 83, 84, 85, 86, 87, 94, 95, 96, 97, 98, 99, 100, 101, 102, 103, 104, 105, 106, 107, 108, 109, 110, 111, 112, 113] ?_
                  refine aw_false rfl ?_
                  refine aw_seq_region ?_
                  refine sr_mv ?_
                  refine sr_mv ?_
                  refine sr_c (x_ge rfl rfl) (fun h9 => ?_) (fun h9 => ?_)
                  · refine sr_as ?_
                    refine sr_nil ?_
                    refine aw_kp [0, 1, 2, 3, 8, 9, 10, 11, 14, 15, 16, 17, 18, 73, 74, 75, 76, 77, 78, 79, 80, 81, 82, 83, 84, 85, 86, 87, 94, 95, 96, 97, 98, 99, 100, 101, 102, 103, 104, 105, 106, 107, 108, 109, 110, 111, 112, 113, 124, 125, 126] ?_
                    refine aw_seq_region ?_
                    refine sr_mv ?_
                    refine sr_mv ?_
                    refine sr_rd (x_cast (u := .int .i64 ((m9 + 1 : Nat) : Int)) (x_add' rfl rfl (i64w (by omega) (by omega))) (by congr 1)) ?_
                    refine sr_mv ?_
                    refine sr_mv ?_
                    refine sr_d rfl (wtd_none rfl) rfl (opS_call rfl rfl rfl rfl cl146 (AC.sub Sub.autoP (ih W9 (m9 + 1) e lim1 hl9 (by omega) (by omega) (by omega) hlim1 (fun _ => by rw [Nat.add_sub_cancel, hp9]; exact hB9)))) ?_
                    rintro _ _ ⟨W8, ⟨hP8, hs8⟩, rfl, rfl⟩
                    refine sr_nil ?_
                    refine aw_kp [0, 1, 2, 3, 8, 9, 10, 11, 14, 15, 16, 17, 18, 73, 74, 75, 76, 77, 78, 79, 80, 81, 82, 83, 84, 85, 86, 87, 94, 95, 96, 97, 98, 99, 100, 101, 102, 103, 104, 105, 106, 107, 108, 109, 110, 111, 112, 113, 124, 125, 126, 127, 128, 129, 130, 131] ?_
                    refine aw_region ?_
                    refine sr_mv ?_
                    refine sr_as ?_
                    refine sr_nil ?_
                    show ∃ s', _ ∧ _ ∧ _ ∧ _
                    exact ⟨⟨a, m9, lim1, W8, true, bb⟩, ⟨hP8.1.length_eq.trans (hP9.1.length_eq.trans hl3), hlim1, hI3.partR hP9 ⟨hm1, hm2⟩ hA9 hp9 hB9 hP8 hs8⟩, by dsimp only; omega, KeepF.auto, Sub.autoP⟩
                  · refine sr_as ?_
                    refine sr_nil ?_
                    refine aw_kp [0, 1, 2, 3, 8, 9, 10, 11, 14, 15, 16, 17, 18, 73, 74, 75, 76, 77, 78, 79, 80, 81, 82, 83, 84, 85, 86, 87, 94, 95, 96, 97, 98, 99, 100, 101, 102, 103, 104, 105, 106, 107, 108, 109, 110, 111, 112, 113, 124, 125, 126] ?_
                    refine aw_seq_region ?_
                    refine sr_mv ?_
                    refine sr_mv ?_
                    refine sr_rd (x_cast (u := .int .i64 ((m9 + 1 : Nat) : Int)) (x_add' rfl rfl (i64w (by omega) (by omega))) (by congr 1)) ?_
                    refine sr_mv ?_
                    refine sr_mv ?_
                    refine sr_d rfl (wtd_none rfl) rfl (opS_call rfl rfl rfl rfl cl146 (AC.sub Sub.autoP (ih W9 (m9 + 1) e lim1 hl9 (by omega) (by omega) (by omega) hlim1 (fun _ => by rw [Nat.add_sub_cancel, hp9]; exact hB9)))) ?_
                    rintro _ _ ⟨W8, ⟨hP8, hs8⟩, rfl, rfl⟩
                    refine sr_nil ?_
                    refine aw_kp [0, 1, 2, 3, 8, 9, 10, 11, 14, 15, 16, 17, 18, 73, 74, 75, 76, 77, 78, 79, 80, 81, 82, 83, 84, 85, 86, 87, 94, 95, 96, 97, 98, 99, 100, 101, 102, 103, 104, 105, 106, 107, 108, 109, 110, 111, 112, 113, 124, 125, 126, 127, 128, 129, 130, 131] ?_
                    refine aw_region ?_
                    refine sr_mv ?_
                    refine sr_as ?_
                    refine sr_nil ?_
                    show ∃ s', _ ∧ _ ∧ _ ∧ _
                    exact ⟨⟨a, m9, lim1, W8, false, bb⟩, ⟨hP8.1.length_eq.trans (hP9.1.length_eq.trans hl3), hlim1, hI3.partR hP9 ⟨hm1, hm2⟩ hA9 hp9 hB9 hP8 hs8⟩, by dsimp only; omega, KeepF.auto, Sub.autoP⟩
            · refine dr_l (x_move rfl) ?_
              refine dr_sk ?_
              refine dr_sk ?_
              refine dr_sk ?_
              refine dr_sk ?_
              refine dr_sk ?_
              refine dr_sk ?_
              refine dr_sk ?_
              refine dr_sk ?_
              refine dr_sk ?_
              refine dr_sk ?_
              refine dr_sk ?_
              refine dr_l (x_pick_f rfl rfl rfl) ?_
              refine dr_nil0 ?_
              refine aw_kp [0, 1, 2, 3, 8, 9, 10, 11, 73, 74, 75, 76, 77, 78, 79, 80, 81, 82, 83, 84, 85, 86, 87] ?_
              refine aw_false rfl ?_
              refine aw_skip ?_
              show AW _ _ _ _ _ _ _
              refine aw_seq_region ?_
              refine sr_mv ?_
              refine sr_mv ?_
              refine sr_mv ?_
              refine sr_mv ?_
              refine sr_d rfl (wtd_none rfl) rfl (opS_call rfl rfl rfl rfl cl164 (AC.sub Sub.autoP (mPart_s b cap n cur3 post G (by omega) hn hcap hcb a e q (by omega) (by omega) (by omega)))) ?_
              rintro _ _ ⟨W9, m9, hm1, hm2, hP9, ⟨hA9, hp9, hB9⟩, ⟨bb, rfl⟩, rfl⟩
              have hl9 := hP9.1.length_eq.trans hl3
              have hpr9 := hP9.pr hpr3
              refine sr_mv ?_
              refine sr_rd (x_extract rfl rfl) ?_
              refine sr_rd (x_extract rfl rfl) ?_
              refine sr_as ?_
              refine sr_as ?_
              refine sr_nil ?_
              refine aw_kp [0, 1, 2, 3, 8, 9, 10, 11, 14, 15, 73, 74, 75, 76, 77, 78, 79, 80, 81, 82, 83, 84, 85, 86, 87, 94, 95, 96, 97, 98, 99, 100, 101] ?_
              refine aw_seq_region ?_
              refine sr_mv ?_
              refine sr_as ?_
              refine sr_nil ?_
              refine aw_kp [0, 1, 2, 3, 8, 9, 10, 11, 14, 15, 73, 74, 75, 76, 77, 78, 79, 80, 81, 82, 83, 84, 85, 86, 87, 94, 95, 96, 97, 98, 99, 100, 101, 102] ?_
              refine aw_seq_region ?_
              refine sr_mv ?_
              refine sr_mv ?_
              refine sr_rd (x_cast (u := .int .i64 ((m9 - a : Nat) : Int)) (x_sub' rfl rfl (i64w (by omega) (by omega))) (by congr 1; omega)) ?_
              refine sr_mv ?_
              refine sr_mv ?_
              refine sr_rd (x_cast (u := .int .i64 ((e - m9 : Nat) : Int)) (x_sub' rfl rfl (i64w (by omega) (by omega))) (by congr 1; omega)) ?_
              refine sr_as ?_
              refine sr_as ?_
              refine sr_nil ?_
              refine aw_kp [0, 1, 2, 3, 8, 9, 10, 11, 14, 15, 16, 17, 73, 74, 75, 76, 77, 78, 79, 80, 81, 82, 83, 84, 85, 86, 87, 94, 95, 96, 97, 98, 99, 100, 101, 102, 103, 104, 105, 106, 107, 108] ?_
              refine aw_seq_region ?_
              refine sr_mv ?_
              refine sr_rd (x_cast (u := .int .i64 (((e - a) / 8 : Nat) : Int)) (x_quo' (c := (((e - a) / 8 : Nat) : Int)) rfl rfl (by decide) (by rw [show (8 : Int) = ((8 : Nat) : Int) from rfl, div_t]; exact i64w (by omega) (by omega))) rfl) ?_
              refine sr_as ?_
              refine sr_nil ?_
              refine aw_kp [0, 1, 2, 3, 8, 9, 10, 11, 14, 15, 16, 17, 18, 73, 74, 75, 76, 77, 78, 79, 80, 81, 82, 83, 84, 85, 86, 87, 94, 95, 96, 97, 98, 99, 100, 101, 102, 103, 104, 105, 106, 107, 108, 109, 110] ?_
              refine aw_seq_region ?_
              refine sr_mv ?_
              refine sr_mv ?_
              refine sr_c (x_lt rfl rfl) (fun h10 => ?_) (fun h10 => ?_)
              · refine sr_nil ?_
                refine aw_kp [0, 1, 2, 3, 8, 9, 10, 11, 14, 15, 16, 17, 18, 73, 74, 75, 76, 77, 78, 79, 80, 81, 82, 83, 84, 85, 86, 87, 94, 95, 96, 97, 98, 99, 100, 101, 102, 103, 104, 105, 106, 107, 108, 109, 110, 111, 112, 113] ?_
                refine aw_true rfl ?_
                refine aw_seq_region ?_
                refine sr_mv ?_
                refine sr_mv ?_
                refine sr_c (x_ge rfl rfl) (fun h11 => ?_) (fun h11 => ?_)
                · refine sr_as ?_
                  refine sr_nil ?_
                  refine aw_kp [0, 1, 2, 3, 8, 9, 10, 11, 14, 15, 16, 17, 18, 73, 74, 75, 76, 77, 78, 79, 80, 81, 82, 83, 84, 85, 86, 87, 94, 95, 96, 97, 98, 99, 100, 101, 102, 103, 104, 105, 106, 107, 108, 109, 110, 111, 112, 113, 114, 115, 116] ?_
                  refine aw_seq_region ?_
                  refine sr_mv ?_
                  refine sr_mv ?_
                  refine sr_mv ?_
                  refine sr_mv ?_
                  refine sr_d rfl (wtd_none rfl) rfl (opS_call rfl rfl rfl rfl cl146 (AC.sub Sub.autoP (ih W9 a m9 lim1 hl9 (by omega) (by omega) (by omega) hlim1 (fun q1 => (hpr9 q1).mono (Nat.le_refl _) (by omega))))) ?_
                  rintro _ _ ⟨W8, ⟨hP8, hs8⟩, rfl, rfl⟩
                  refine sr_nil ?_
                  refine aw_kp [0, 1, 2, 3, 8, 9, 10, 11, 14, 15, 16, 17, 18, 73, 74, 75, 76, 77, 78, 79, 80, 81, 82, 83, 84, 85, 86, 87, 94, 95, 96, 97, 98, 99, 100, 101, 102, 103, 104, 105, 106, 107, 108, 109, 110, 111, 112, 113, 114, 115, 116, 117, 118, 119, 120] ?_
                  refine aw_region ?_
                  refine sr_mv ?_
                  refine sr_rd (x_cast (u := .int .i64 ((m9 + 1 : Nat) : Int)) (x_add' rfl rfl (i64w (by omega) (by omega))) (by congr 1)) ?_
                  refine sr_as ?_
                  refine sr_nil ?_
                  show ∃ s', _ ∧ _ ∧ _ ∧ _
                  exact ⟨⟨m9 + 1, e, lim1, W8, true, bb⟩, ⟨hP8.1.length_eq.trans (hP9.1.length_eq.trans hl3), hlim1, hI3.partL hP9 ⟨hm1, hm2⟩ hA9 hp9 hB9 hP8 hs8⟩, by dsimp only; omega, KeepF.auto, Sub.autoP⟩
                · refine sr_as ?_
                  refine sr_nil ?_
                  refine aw_kp [0, 1, 2, 3, 8, 9, 10, 11, 14, 15, 16, 17, 18, 73, 74, 75, 76, 77, 78, 79, 80, 81, 82, 83, 84, 85, 86, 87, 94, 95, 96, 97, 98, 99, 100, 101, 102, 103, 104, 105, 106, 107, 108, 109, 110, 111, 112, 113, 114, 115, 116] ?_
                  refine aw_seq_region ?_
                  refine sr_mv ?_
                  refine sr_mv ?_
                  refine sr_mv ?_
                  refine sr_mv ?_
                  refine sr_d rfl (wtd_none rfl) rfl (opS_call rfl rfl rfl rfl cl146 (AC.sub Sub.autoP (ih W9 a m9 lim1 hl9 (by omega) (by omega) (by omega) hlim1 (fun q1 => (hpr9 q1).mono (Nat.le_refl _) (by omega))))) ?_
                  rintro _ _ ⟨W8, ⟨hP8, hs8⟩, rfl, rfl⟩
                  refine sr_nil ?_
                  refine aw_kp [0, 1, 2, 3, 8, 9, 10, 11, 14, 15, 16, 17, 18, 73, 74, 75, 76, 77, 78, 79, 80, 81, 82, 83, 84, 85, 86, 87, 94, 95, 96, 97, 98, 99, 100, 101, 102, 103, 104, 105, 106, 107, 108, 109, 110, 111, 112, 113, 114, 115, 116, 117, 118, 119, 120] ?_
                  refine aw_region ?_
                  refine sr_mv ?_
                  refine sr_rd (x_cast (u := .int .i64 ((m9 + 1 : Nat) : Int)) (x_add' rfl rfl (i64w (by omega) (by omega))) (by congr 1)) ?_
                  refine sr_as ?_
                  refine sr_nil ?_
                  show ∃ s', _ ∧ _ ∧ _ ∧ _
                  exact ⟨⟨m9 + 1, e, lim1, W8, false, bb⟩, ⟨hP8.1.length_eq.trans (hP9.1.length_eq.trans hl3), hlim1, hI3.partL hP9 ⟨hm1, hm2⟩ hA9 hp9 hB9 hP8 hs8⟩, by dsimp only; omega, KeepF.auto, Sub.autoP⟩
              · refine sr_nil ?_
                refine aw_kp [0, 1, 2, 3, 8, 9, 10, 11, 14, 15, 16, 17, 18, 73, 74, 75, 76, 77, 78, 79, 80, 81, 82, 83, 84, 85, 86, 87, 94, 95, 96, 97, 98, 99, 100, 101, 102, 103, 104, 105, 106, 107, 108, 109, 110, 111, 112, 113] ?_
                refine aw_false rfl ?_
                refine aw_seq_region ?_
                refine sr_mv ?_
                refine sr_mv ?_
                refine sr_c (x_ge rfl rfl) (fun h12 => ?_) (fun h12 => ?_)
                · refine sr_as ?_
                  refine sr_nil ?_
                  refine aw_kp [0, 1, 2, 3, 8, 9, 10, 11, 14, 15, 16, 17, 18, 73, 74, 75, 76, 77, 78, 79, 80, 81, 82, 83, 84, 85, 86, 87, 94, 95, 96, 97, 98, 99, 100, 101, 102, 103, 104, 105, 106, 107, 108, 109, 110, 111, 112, 113, 124, 125, 126] ?_
                  refine aw_seq_region ?_
                  refine sr_mv ?_
                  refine sr_mv ?_
                  refine sr_rd (x_cast (u := .int .i64 ((m9 + 1 : Nat) : Int)) (x_add' rfl rfl (i64w (by omega) (by omega))) (by congr 1)) ?_
                  refine sr_mv ?_
                  refine sr_mv ?_
                  refine sr_d rfl (wtd_none rfl) rfl (opS_call rfl rfl rfl rfl cl146 (AC.sub Sub.autoP (ih W9 (m9 + 1) e lim1 hl9 (by omega) (by omega) (by omega) hlim1 (fun _ => by rw [Nat.add_sub_cancel, hp9]; exact hB9)))) ?_
                  rintro _ _ ⟨W8, ⟨hP8, hs8⟩, rfl, rfl⟩
                  refine sr_nil ?_
                  refine aw_kp [0, 1, 2, 3, 8, 9, 10, 11, 14, 15, 16, 17, 18, 73, 74, 75, 76, 77, 78, 79, 80, 81, 82, 83, 84, 85, 86, 87, 94, 95, 96, 97, 98, 99, 100, 101, 102, 103, 104, 105, 106, 107, 108, 109, 110, 111, 112, 113, 124, 125, 126, 127, 128, 129, 130, 131] ?_
                  refine aw_region ?_
                  refine sr_mv ?_
                  refine sr_as ?_
                  refine sr_nil ?_
                  show ∃ s', _ ∧ _ ∧ _ ∧ _
                  exact ⟨⟨a, m9, lim1, W8, true, bb⟩, ⟨hP8.1.length_eq.trans (hP9.1.length_eq.trans hl3), hlim1, hI3.partR hP9 ⟨hm1, hm2⟩ hA9 hp9 hB9 hP8 hs8⟩, by dsimp only; omega, KeepF.auto, Sub.autoP⟩
                · refine sr_as ?_
                  refine sr_nil ?_
                  refine aw_kp [0, 1, 2, 3, 8, 9, 10, 11, 14, 15, 16, 17, 18, 73, 74, 75, 76, 77, 78, 79, 80, 81, 82, 83, 84, 85, 86, 87, 94, 95, 96, 97, 98, 99, 100, 101, 102, 103, 104, 105, 106, 107, 108, 109, 110, 111, 112, 113, 124, 125, 126] ?_
                  refine aw_seq_region ?_
                  refine sr_mv ?_
                  refine sr_mv ?_
                  refine sr_rd (x_cast (u := .int .i64 ((m9 + 1 : Nat) : Int)) (x_add' rfl rfl (i64w (by omega) (by omega))) (by congr 1)) ?_
                  refine sr_mv ?_
                  refine sr_mv ?_
                  refine sr_d rfl (wtd_none rfl) rfl (opS_call rfl rfl rfl rfl cl146 (AC.sub Sub.autoP (ih W9 (m9 + 1) e lim1 hl9 (by omega) (by omega) (by omega) hlim1 (fun _ => by rw [Nat.add_sub_cancel, hp9]; exact hB9)))) ?_
                  rintro _ _ ⟨W8, ⟨hP8, hs8⟩, rfl, rfl⟩
                  refine sr_nil ?_
                  refine aw_kp [0, 1, 2, 3, 8, 9, 10, 11, 14, 15, 16, 17, 18, 73, 74, 75, 76, 77, 78, 79, 80, 81, 82, 83, 84, 85, 86, 87, 94, 95, 96, 97, 98, 99, 100, 101, 102, 103, 104, 105, 106, 107, 108, 109, 110, 111, 112, 113, 124, 125, 126, 127, 128, 129, 130, 131] ?_
                  refine aw_region ?_
                  refine sr_mv ?_
                  refine sr_as ?_
                  refine sr_nil ?_
                  show ∃ s', _ ∧ _ ∧ _ ∧ _
                  exact ⟨⟨a, m9, lim1, W8, false, bb⟩, ⟨hP8.1.length_eq.trans (hP9.1.length_eq.trans hl3), hlim1, hI3.partR hP9 ⟨hm1, hm2⟩ hA9 hp9 hB9 hP8 hs8⟩, by dsimp only; omega, KeepF.auto, Sub.autoP⟩
theorem mPdq_s (b cap n : Nat) (post : List Value) (G : SHeap) (hn : n ≤ 100000) (hcap : n ≤ cap) (hcb : cap ≤ 9223372036854775807) (h256 : n < 256) : ∀ (k : Nat) (W : List Int) (a e : Nat) (lim : Int), W.length = n → e - a ≤ k → a ≤ e → e ≤ n → (0 ≤ lim ∧ lim ≤ 64) → (0 < a → Al W a e (fun x => gd W (a - 1) ≤ x)) → AC Try.prog W0 146 [.slice (some ⟨b, 0, none⟩) n cap, .int .i64 (a : Nat), .int .i64 (e : Nat), .int .i64 lim] ((b, .cells ((W).flatMap intC ++ post).toArray 3 (0, 0)) :: G) (fun v H' => ∃ W', (Pq W a e W' ∧ SrI W' a e) ∧ v = .tuple #[] ∧ H' = (b, .cells ((W').flatMap intC ++ post).toArray 3 (0, 0)) :: G) := by
  intro k
  induction k with
  | zero =>
    intro W a e lim hl hk h1 h2 h3 h4
    exact mPdqW_s b cap n W post G hl hn hcap hcb a e h1 h2 h256 lim h3 h4 fun W1 a1 e1 l1 q1 q2 => by omega
  | succ k ih =>
    intro W a e lim hl hk h1 h2 h3 h4
    exact mPdqW_s b cap n W post G hl hn hcap hcb a e h1 h2 h256 lim h3 h4 fun W1 a1 e1 l1 q1 q2 q3 q4 q5 q6 => ih W1 a1 e1 l1 q1 (by omega) q3 q4 q5 q6
set_option maxRecDepth 100000 in
set_option maxHeartbeats 400000 in
theorem mSrt_s (b cap n : Nat) (W : List Int) (post : List Value) (G : SHeap) (hl : W.length = n) (hn : n ≤ 100000) (hcap : n ≤ cap) (hcb : cap ≤ 9223372036854775807) (h256 : n < 256) : AC Try.prog W0 128 [.slice (some ⟨b, 0, none⟩) n cap] ((b, .cells ((W).flatMap intC ++ post).toArray 3 (0, 0)) :: G) (fun v H' => ∃ W', (Pq W 0 n W' ∧ SrI W' 0 n) ∧ v = .tuple #[] ∧ H' = (b, .cells ((W').flatMap intC ++ post).toArray 3 (0, 0)) :: G) := by
  refine ac_of Try.func128 rfl rfl rfl ?_
  refine aw_seq_region ?_
  refine sr_mv ?_
  refine sr_rd (x_lenSlice Try.underlying134 rfl) ?_
  refine sr_as ?_
  refine sr_nil ?_
  refine aw_kp [0, 2] ?_
  refine aw_region ?_
  refine sr_mv ?_
  refine sr_mv ?_
  refine sr_mv ?_
  refine sr_rd (x_conv' Try.underlying3 Try.underlying207 rfl (u64w (by omega) (by omega))) ?_
  refine sr_d rfl (wtd_none rfl) rfl (opS_call rfl rfl rfl rfl cl147 (mLen_s n _ h256)) ?_
  rintro _ H9 ⟨rfl, rfl⟩
  have hb8 := bitLen_le8 n h256
  refine sr_d rfl (wtd_none rfl) rfl (opS_call rfl rfl rfl rfl cl146 (AC.sub Sub.autoP (mPdq_s b cap n post G hn hcap hcb h256 n W 0 n ((bitLen n : Nat) : Int) hl (by omega) (Nat.zero_le _) (Nat.le_refl _) (by omega) (fun h => absurd h (Nat.lt_irrefl 0))))) ?_
  rintro _ _ ⟨W9, hP9, rfl, rfl⟩
  refine sr_nil ?_
  show ∃ v H2, ResV _ _ _ _ _ _ v ∧ Sub H2 _ ∧ _
  exact ⟨_, _, resV rfl .nil, Sub.refl _, W9, hP9, rfl, rfl⟩
set_option maxRecDepth 100000 in
set_option maxHeartbeats 400000 in
theorem mInsN_s (G : SHeap) : AC Try.prog W0 156 [.slice none 0 0, .int .i64 ((0 : Nat) : Int), .int .i64 ((0 : Nat) : Int)] G (fun v H' => v = .tuple #[] ∧ H' = G) := by
  refine ac_of Try.func156 rfl rfl rfl ?_
  refine aw_seq_region ?_
  refine sr_mv ?_
  refine sr_rd (x_add' rfl rfl (i64w (by omega) (by omega))) ?_
  refine sr_as ?_
  refine sr_nil ?_
  refine aw_kp [0, 1, 2, 6] ?_
  refine aw_block ?_
  refine aw_loop (ι := Unit) (fun _ => True) (fun _ => [(2, .int .i64 ((0 : Nat) : Int)), (6, .int .i64 1)]) (fun _ => G) (fun _ => 0) () (trivial) KeepF.auto (by repeat (first | exact Sub.refl _ | apply Sub.drop)) ?_
  intro _ _
  refine aw_seq ?_
  refine aw_seq_region ?_
  refine sr_mv ?_
  refine sr_mv ?_
  refine sr_c (x_lt rfl rfl) (fun h1 => absurd h1 (by first | omega | decide)) (fun h1 => ?_)
  refine sr_nil ?_
  refine aw_kp [2, 6, 10, 11, 12] ?_
  refine aw_false rfl ?_
  refine aw_exit ?_
  show ∃ v H2, ResV _ _ _ _ _ _ v ∧ Sub H2 _ ∧ _
  exact ⟨_, G, resV rfl .nil, (by repeat (first | exact Sub.refl _ | apply Sub.drop)), ⟨rfl, rfl⟩⟩
set_option maxRecDepth 100000 in
set_option maxHeartbeats 400000 in
theorem mPdqN_s (G : SHeap) (l : Int) : AC Try.prog W0 146 [.slice none 0 0, .int .i64 ((0 : Nat) : Int), .int .i64 ((0 : Nat) : Int), .int .i64 l] G (fun v H' => v = .tuple #[] ∧ H' = G) := by
  refine ac_of Try.func146 rfl rfl rfl ?_
  refine aw_seq_region ?_
  refine sr_as ?_
  refine sr_nil ?_
  refine aw_kp [0, 1, 2, 3, 8] ?_
  refine aw_seq_region ?_
  refine sr_as ?_
  refine sr_nil ?_
  refine aw_kp [0, 1, 2, 3, 8, 9] ?_
  refine aw_block ?_
  refine aw_loop (ι := Unit) (fun _ => True) (fun _ => [(0, .slice none 0 0), (1, .int .i64 ((0 : Nat) : Int)), (2, .int .i64 ((0 : Nat) : Int))]) (fun _ => G) (fun _ => 0) () (trivial) KeepF.auto (by repeat (first | exact Sub.refl _ | apply Sub.drop)) ?_
  intro _ _
  refine aw_block ?_
  refine aw_seq_region ?_
  refine sr_mv ?_
  refine sr_mv ?_
  refine sr_rd (x_cast (u := .int .i64 0) (x_sub' rfl rfl (i64w (by omega) (by omega))) rfl) ?_
  refine sr_as ?_
  refine sr_nil ?_
  refine aw_kp [0, 1, 2, 10, 19, 20, 21] ?_
  refine aw_seq ?_
  refine aw_seq_region ?_
  refine sr_mv ?_
  refine sr_c (x_le rfl rfl) (fun h1 => ?_) (fun h1 => absurd (by first | omega | decide) h1)
  refine sr_nil ?_
  refine aw_kp [0, 1, 2, 10, 19, 20, 21, 22, 23] ?_
  refine aw_true rfl ?_
  refine aw_seq_region ?_
  refine sr_mv ?_
  refine sr_mv ?_
  refine sr_mv ?_
  refine sr_d rfl (wtd_none rfl) rfl (opS_call rfl rfl rfl rfl cl156 (mInsN_s _)) ?_
  rintro _ G ⟨rfl, rfl⟩
  refine sr_nil ?_
  refine aw_kp [0, 1, 2, 10, 19, 20, 21, 22, 23, 24, 25, 26] ?_
  refine aw_ret ?_
  show ∃ v H2, ResV _ _ _ _ _ _ v ∧ Sub H2 _ ∧ _
  exact ⟨_, G, resV rfl .nil, (by repeat (first | exact Sub.refl _ | apply Sub.drop)), ⟨rfl, rfl⟩⟩
set_option maxRecDepth 100000 in
set_option maxHeartbeats 400000 in
theorem mSrtN_s (G : SHeap) : AC Try.prog W0 128 [.slice none 0 0] G (fun v H' => v = .tuple #[] ∧ H' = G) := by
  refine ac_of Try.func128 rfl rfl rfl ?_
  refine aw_seq_region ?_
  refine sr_mv ?_
  refine sr_rd (x_lenSlice Try.underlying134 rfl) ?_
  refine sr_as ?_
  refine sr_nil ?_
  refine aw_kp [0, 2] ?_
  refine aw_region ?_
  refine sr_mv ?_
  refine sr_mv ?_
  refine sr_mv ?_
  refine sr_rd (x_conv' Try.underlying3 Try.underlying207 rfl (u64w (by omega) (by omega))) ?_
  refine sr_d rfl (wtd_none rfl) rfl (opS_call rfl rfl rfl rfl cl147 (mLen_s 0 _ (by omega))) ?_
  rintro _ H9 ⟨rfl, rfl⟩
  refine sr_d rfl (wtd_none rfl) rfl (opS_call rfl rfl rfl rfl cl146 (mPdqN_s _ _)) ?_
  rintro _ G ⟨rfl, rfl⟩
  refine sr_nil ?_
  show ∃ v H2, ResV _ _ _ _ _ _ v ∧ Sub H2 _ ∧ _
  exact ⟨_, G, resV rfl .nil, (by repeat (first | exact Sub.refl _ | apply Sub.drop)), ⟨rfl, rfl⟩⟩
theorem mV_s (a : Option Addr) (cap n : Nat) (W : List Int) (E G : SHeap) (V : OwnVec 1 3 (.slice a n cap) n (W.flatMap intC) E) (hl : W.length = n) (h256 : n < 256) :
    AC Try.prog W0 128 [.slice a n cap] (E ++ G) (fun v H' => ∃ W' E', (W'.Perm W ∧ SrI W' 0 n) ∧ v = .tuple #[] ∧ OwnVec 1 3 (.slice a n cap) n (W'.flatMap intC) E' ∧ H' = E' ++ G) := by
  generalize hL : W.flatMap intC = L at V
  cases V with
  | nil =>
    obtain rfl : W = [] := List.length_eq_zero_iff.1 hl
    exact (mSrtN_s G).mono fun v H' ⟨h1, h2⟩ => ⟨[], [], ⟨List.Perm.refl _, fun i j _ _ h => by omega⟩, h1, .nil, h2⟩
  | @mk r n cap L post h1 h2 h3 h4 =>
    subst hL
    exact (mSrt_s r cap n W post G hl (by omega) h3 h4 h256).mono fun v H' ⟨W', ⟨q1, q2⟩, q3, q4⟩ => ⟨W', _, ⟨q1.1, q2⟩, q3, .mk (by rw [flat_len (n := 1) (enc := intC) (fun _ => rfl), q1.1.length_eq, hl]) h2 h3 h4, q4⟩
end
end Go.Proofs.Yteilocpjikmmdaa
