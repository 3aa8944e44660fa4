/- Entries are sorted by their times, alike ones as they stand. -/
import Derived.Test.YtbcajgkaepihfaaDoorSfa
import Derived.Test.YtbcajgkaepihfaaDoorSymPlace
namespace Go.Proofs.YtbcajgkaepihfaaDoor
open Go.Proofs.YtbcajgkaepihfaaDoor.Sym
open Go.RowKit (Below)
set_option linter.unusedVariables false
set_option linter.unusedSimpArgs false
def cE (a b : Ent) : Int := if a.at_ < b.at_ then -1 else if b.at_ < a.at_ then 1 else 0
theorem cE_lt {a b : Ent} : cE a b < 0 ↔ a.at_ < b.at_ := by unfold cE; split <;> (try split) <;> omega
theorem swoE : Swo cE := ⟨fun x => by rw [cE_lt]; omega, fun {x y z} => by rw [cE_lt, cE_lt, cE_lt]; omega, fun {x y z} => by rw [cE_lt, cE_lt, cE_lt]; omega⟩
theorem cl113 : Callable Tryd.prog 113 := ⟨Tryd.f113, Tryd.func113, by kernel_rfl, by kernel_rfl⟩
theorem cl126 : Callable Tryd.prog 126 := ⟨Tryd.f126, Tryd.func126, by kernel_rfl, by kernel_rfl⟩
theorem cl64 : Callable Tryd.prog 64 := ⟨Tryd.f64, Tryd.func64, by kernel_rfl, by kernel_rfl⟩
theorem cl65 : Callable Tryd.prog 65 := ⟨Tryd.f65, Tryd.func65, by kernel_rfl, by kernel_rfl⟩
theorem cl66 : Callable Tryd.prog 66 := ⟨Tryd.f66, Tryd.func66, by kernel_rfl, by kernel_rfl⟩
theorem cl80 : Callable Tryd.prog 80 := ⟨Tryd.f80, Tryd.func80, by kernel_rfl, by kernel_rfl⟩
theorem cl92 : Callable Tryd.prog 92 := ⟨Tryd.f92, Tryd.func92, by kernel_rfl, by kernel_rfl⟩
theorem cl93 : Callable Tryd.prog 93 := ⟨Tryd.f93, Tryd.func93, by kernel_rfl, by kernel_rfl⟩
section
variable {W0 : World}
set_option maxRecDepth 100000 in
set_option maxHeartbeats 400000 in
theorem ecmp_s (x y : Ent) (H : SHeap) : AC Tryd.prog W0 66 [x.v, y.v] H (fun v H' => v = .int .i64 (cE x y) ∧ H' = H) := by
  refine ac_of Tryd.func66 rfl rfl rfl ?_
  refine aw_seq_region ?_
  refine sr_new rfl (wtd_none rfl) rfl (x_box rfl rfl) ?_
  intro r0_0 hr0_0 gr0_0
  refine sr_new rfl (wtd_none rfl) rfl (x_box rfl rfl) ?_
  intro r0_1 hr0_1 gr0_1
  refine sr_as ?_
  refine sr_nil ?_
  refine aw_kp [2, 3, 4] ?_
  refine aw_seq ?_
  refine aw_block ?_
  refine aw_seq_region ?_
  refine sr_rd (x_fieldAddr fd30_0 rfl) ?_
  refine sr_rd (x_load ag2 rfl (cells_ext mauto Ext.auto)) ?_
  refine sr_rd (x_fieldAddr fd30_0 rfl) ?_
  refine sr_rd (x_load ag2 rfl (cells_ext mauto Ext.auto)) ?_
  refine sr_c (x_lt rfl rfl) (fun h1 => ?_) (fun h1 => ?_)
  · refine sr_as ?_
    refine sr_nil ?_
    refine aw_kp [2, 3, 4, 5] ?_
    refine aw_true rfl ?_
    refine aw_seq_region ?_
    refine sr_as ?_
    refine sr_nil ?_
    refine aw_kp [4] ?_
    refine aw_ret ?_
    show ∃ v H2, ResV _ _ _ _ _ _ v ∧ Sub H2 _ ∧ _
    exact ⟨_, H, resV rfl (.cons rfl .nil), Sub.autoP, ⟨congrArg (Value.int .i64) (by unfold cE; (repeat (first | rw [if_pos (by omega)] | rw [if_neg (by omega)]))), rfl⟩⟩
  · refine sr_as ?_
    refine sr_nil ?_
    refine aw_kp [2, 3, 4, 5] ?_
    refine aw_false rfl ?_
    refine aw_seq_region ?_
    refine sr_rd (x_fieldAddr fd30_0 rfl) ?_
    refine sr_rd (x_load ag2 rfl (cells_ext mauto Ext.auto)) ?_
    refine sr_rd (x_fieldAddr fd30_0 rfl) ?_
    refine sr_rd (x_load ag2 rfl (cells_ext mauto Ext.auto)) ?_
    refine sr_c (x_gt rfl rfl) (fun h2 => ?_) (fun h2 => ?_)
    · refine sr_as ?_
      refine sr_nil ?_
      refine aw_kp [4, 11] ?_
      refine aw_true rfl ?_
      refine aw_seq_region ?_
      refine sr_as ?_
      refine sr_nil ?_
      refine aw_kp [4] ?_
      refine aw_ret ?_
      show ∃ v H2, ResV _ _ _ _ _ _ v ∧ Sub H2 _ ∧ _
      exact ⟨_, H, resV rfl (.cons rfl .nil), Sub.autoP, ⟨congrArg (Value.int .i64) (by unfold cE; (repeat (first | rw [if_pos (by omega)] | rw [if_neg (by omega)]))), rfl⟩⟩
    · refine sr_as ?_
      refine sr_nil ?_
      refine aw_kp [4, 11] ?_
      refine aw_false rfl ?_
      refine aw_skip ?_
      show AW _ _ _ _ _ _ _
      refine aw_seq_region ?_
      refine sr_as ?_
      refine sr_nil ?_
      refine aw_kp [4] ?_
      refine aw_ret ?_
      show ∃ v H2, ResV _ _ _ _ _ _ v ∧ Sub H2 _ ∧ _
      exact ⟨_, H, resV rfl (.cons rfl .nil), Sub.autoP, ⟨congrArg (Value.int .i64) (by unfold cE; (repeat (first | rw [if_pos (by omega)] | rw [if_neg (by omega)]))), rfl⟩⟩
set_option maxRecDepth 100000 in
set_option maxHeartbeats 400000 in
theorem eclone_s (a : Option Addr) (cap : Nat) (xs : List Ent) (H : SHeap) (hs : SlV W0 H 6 Ent.cells a cap xs) (hjl : xs.length ≤ 1000000) : AC Tryd.prog W0 64 [.slice a xs.length cap] H (fun v H' => ∃ E2, (∃ a2 cap2, OwnVec 6 30 (.slice a2 xs.length cap2) xs.length (xs.flatMap Ent.cells) E2 ∧ v = .slice a2 xs.length cap2) ∧ H' = E2 ++ H) := by
  have hfl := flat_len (n := 6) (enc := Ent.cells) (fun _ => rfl) xs
  have hfn : a.isNone = true → xs.length = 0 := fun h => by rcases hs.flat (fun _ => rfl) (by omega) with ⟨q, _⟩ | ⟨b, off, rfl, _⟩ <;> first | exact q | cases h
  refine ac_of Tryd.func64 rfl rfl rfl ?_
  refine aw_seq_region ?_
  refine sr_as ?_
  refine sr_nil ?_
  refine aw_kp [0, 2] ?_
  refine aw_seq ?_
  refine aw_seq_region ?_
  refine sr_mv ?_
  refine sr_rd (x_eqnils Tryd.underlying24 rfl rfl) ?_
  refine sr_nil ?_
  refine aw_kp [0, 2, 4] ?_
  refine aw_cond rfl (fun hb1 => ?_) (fun hb1 => ?_)
  · refine aw_seq_region ?_
    refine sr_as ?_
    refine sr_nil ?_
    refine aw_kp [0, 2] ?_
    refine aw_ret ?_
    show ∃ v H2, ResV _ _ _ _ _ _ v ∧ Sub H2 _ ∧ _
    first | (rw [Nat.zero_add, List.nil_append] at hV7; obtain ⟨a7, cap7, rfl⟩ := hV7.isSl; exact ⟨_, E7 ++ H, resV rfl (.cons rfl .nil), (Sub.refl _), E7, ⟨a7, cap7, hV7, rfl⟩, rfl⟩) | (have hz := hfn (by assumption); have hj0 : xs = [] := List.length_eq_zero_iff.1 hz; subst hj0; exact ⟨_, [] ++ H, resV rfl (.cons rfl .nil), (Sub.refl _), [], ⟨none, 0, .nil, rfl⟩, rfl⟩)
  · refine aw_skip ?_
    show AW _ _ _ _ _ _ _
    refine aw_seq_region ?_
    refine sr_new rfl (wtd_none rfl) rfl (x_buildSlice0 Tryd.underlying24 sz30 rfl) ?_
    intro r3_0 hr3_0 gr3_0
    refine sr_mv ?_
    refine sr_d rfl (wtd_none rfl) rfl (opS_append (G := H) (N := xs.flatMap Ent.cells) (m := xs.length) Tryd.underlying24 sz30 zr30 rfl by30 rfl rfl (OwnVec.mk (r := r3_0) (n := 0) (cap := 0) (L := []) (post := []) rfl rfl (by omega) (by omega)) Sub.autoP (((hs.mono (by repeat (first | exact Sub.refl _ | apply Sub.drop))).flat (fun _ => rfl) (by omega))) (hfl) (all_oneE xs) (by omega) (by omega)) ?_
    rintro v7 _ ⟨E7, hV7, rfl⟩
    refine sr_as ?_
    refine sr_nil ?_
    refine aw_kp [2] ?_
    refine aw_ret ?_
    show ∃ v H2, ResV _ _ _ _ _ _ v ∧ Sub H2 _ ∧ _
    first | (rw [Nat.zero_add, List.nil_append] at hV7; obtain ⟨a7, cap7, rfl⟩ := hV7.isSl; exact ⟨_, E7 ++ H, resV rfl (.cons rfl .nil), (Sub.refl _), E7, ⟨a7, cap7, hV7, rfl⟩, rfl⟩) | (have hz := hfn (by assumption); have hj0 : xs = [] := List.length_eq_zero_iff.1 hz; subst hj0; exact ⟨_, [] ++ H, resV rfl (.cons rfl .nil), (Sub.refl _), [], ⟨none, 0, .nil, rfl⟩, rfl⟩)
set_option maxRecDepth 100000 in
set_option maxHeartbeats 400000 in
theorem esSwr_s (b cap n : Nat) (W : List Ent) (post : List Value) (G : SHeap) (hl : W.length = n) (hn : n ≤ 100000) (hcap : n ≤ cap) (hcb : cap ≤ 9223372036854775807) (a k2 n2 : Nat) (h1 : a + n2 ≤ k2) (h2 : k2 + n2 ≤ n) : AC Tryd.prog W0 126 [.slice (some ⟨b, 0, none⟩) n cap, .int .i64 a, .int .i64 k2, .int .i64 n2, .func (.func 66) #[] #[]] ((b, .cells ((W).flatMap Ent.cells ++ post).toArray 30 (0, 0)) :: G) (fun v H' => ∃ W', Mv W (swF a k2 n2) W' ∧ v = .tuple #[] ∧ H' = (b, .cells ((W').flatMap Ent.cells ++ post).toArray 30 (0, 0)) :: G) := by
  refine ac_of Tryd.func126 rfl rfl rfl ?_
  refine aw_seq_region ?_
  refine sr_as ?_
  refine sr_nil ?_
  refine aw_kp [0, 1, 2, 3, 10] ?_
  refine aw_block ?_
  refine aw_loop (ι := SortG Ent) (fun s => s.k ≤ n2 ∧ s.W.length = n ∧ Mv W (swF a k2 s.k) s.W) (fun s => [(0, .slice (some ⟨b, 0, none⟩) n cap), (1, .int .i64 a), (2, .int .i64 k2), (3, .int .i64 n2), (10, .int .i64 s.k)]) (fun s => (b, .cells ((s.W).flatMap Ent.cells ++ post).toArray 30 (0, 0)) :: G) (fun s => n2 - s.k) ⟨0, W⟩ (⟨Nat.zero_le _, hl, Mv.refl W (swF_zero a k2)⟩) KeepF.auto Sub.autoP ?_
  intro s hs9
  obtain ⟨k, cur⟩ := s
  dsimp only at hs9 ⊢
  obtain ⟨hk, hcl, hmv⟩ := hs9
  refine aw_seq ?_
  refine aw_seq_region ?_
  refine sr_mv ?_
  refine sr_mv ?_
  refine sr_c (x_lt rfl rfl) (fun h1 => ?_) (fun h1 => ?_)
  · refine sr_nil ?_
    refine aw_kp [0, 1, 2, 3, 10, 11, 12, 13] ?_
    refine aw_true rfl ?_
    refine aw_skip ?_
    show AW _ _ _ _ _ _ _
    refine aw_seq ?_
    refine aw_block ?_
    refine aw_dr ⟨_, 24, 38, [[], [], [], [1, 2], [], [], [], [5, 6], [], [], [], [9, 10], [8, 9, 10, 11], [8, 9, 10, 11, 12], [], [], [], [15, 16], [14, 15, 16, 17], [14, 15, 16, 17, 18], [0, 1, 2, 3, 8, 9, 10, 11, 12, 13, 14, 15, 16, 17, 18, 19], [0, 1, 2, 3, 8, 9, 10, 11, 12, 13, 14, 15, 16, 17, 18, 19, 20], [0, 1, 2, 3, 4, 5, 6, 7, 8, 9, 10, 11, 12, 13, 14, 15, 16, 17, 18, 19, 20, 21], [0, 1, 2, 3, 4, 5, 6, 7, 8, 9, 10, 11, 12, 13, 14, 15, 16, 17, 18, 19, 20, 21, 22]], [.light, .light, .light, .light, .light, .light, .light, .light, .light, .light, .light, .light, .light, .mem, .light, .light, .light, .light, .light, .mem, .light, .eff, .light, .eff]⟩ (by kernel_rfl) rfl rfl mix ?_
    refine dr_l (x_move rfl) ?_
    refine dr_l (x_move rfl) ?_
    refine dr_l (x_move rfl) ?_
    refine dr_l (x_add' rfl rfl (i64w (by omega) (by omega))) ?_
    refine dr_l (x_move rfl) ?_
    refine dr_l (x_move rfl) ?_
    refine dr_l (x_move rfl) ?_
    refine dr_l (x_add' rfl rfl (i64w (by omega) (by omega))) ?_
    refine dr_l (x_move rfl) ?_
    refine dr_l (x_move rfl) ?_
    refine dr_l (x_move rfl) ?_
    refine dr_l (x_add' rfl rfl (i64w (by omega) (by omega))) ?_
    refine dr_l (x_indexAddrN (k2 + k) Tryd.underlying24 sz30 rfl rfl rfl (by omega) (by omega)) ?_
    refine dr_mem0 rfl rfl (wtd_none rfl) (x_loadN ag30 sz30 rfl ((cells_flat0 (n := 6) (enc := Ent.cells) (fun _ => rfl) (xs := cur) (post := post) (show (b, Obj.cells ((cur).flatMap Ent.cells ++ post).toArray 30 (0, 0)) ∈ _ from mauto) (gd_some (by omega)))) rfl) ?_
    refine dr_l (x_move rfl) ?_
    refine dr_l (x_move rfl) ?_
    refine dr_l (x_move rfl) ?_
    refine dr_l (x_add' rfl rfl (i64w (by omega) (by omega))) ?_
    refine dr_l (x_indexAddrN (a + k) Tryd.underlying24 sz30 rfl rfl rfl (by omega) (by omega)) ?_
    refine dr_mem0 rfl rfl (wtd_none rfl) (x_loadN ag30 sz30 rfl ((cells_flat0 (n := 6) (enc := Ent.cells) (fun _ => rfl) (xs := cur) (post := post) (show (b, Obj.cells ((cur).flatMap Ent.cells ++ post).toArray 30 (0, 0)) ∈ _ from mauto) (gd_some (by omega)))) rfl) ?_
    refine dr_l (x_indexAddrN (a + k) Tryd.underlying24 sz30 rfl rfl rfl (by omega) (by omega)) ?_
    refine dr_store0 rfl rfl (wtd_none rfl) (x_store sz30 rfl rfl rfl rfl rfl Repl.auto (spl_flat0 (n := 6) (enc := Ent.cells) (fun _ => rfl) (xs := cur) (post := post) (i := (a + k)) (x' := gd cur (k2 + k)) (by first | omega | (rw [List.length_set]; omega)))) (by first | rfl | simp [keys_append, keys_cons]) ?_
    refine dr_l (x_indexAddrN (k2 + k) Tryd.underlying24 sz30 rfl rfl rfl (by omega) (by omega)) ?_
    refine dr_store0 rfl rfl (wtd_none rfl) (x_store sz30 rfl rfl rfl rfl rfl Repl.auto (spl_flat0 (n := 6) (enc := Ent.cells) (fun _ => rfl) (xs := ((cur).set (a + k) (gd cur (k2 + k)))) (post := post) (i := (k2 + k)) (x' := gd cur (a + k)) (by first | omega | (rw [List.length_set]; omega)))) (by first | rfl | simp [keys_append, keys_cons]) ?_
    refine dr_nil0 ?_
    show AW _ _ _ _ _ _ _
    refine aw_region ?_
    refine sr_mv ?_
    refine sr_rd (x_add' rfl rfl (i64w (by omega) (by omega))) ?_
    refine sr_as ?_
    refine sr_nil ?_
    show ∃ s', _ ∧ _ ∧ _ ∧ _
    exact ⟨⟨k + 1, sw cur (a + k) (k2 + k)⟩, ⟨by dsimp only; omega, sw_len.trans hcl, hmv.sw (by omega) (by omega) (swF_step (by omega))⟩, by dsimp only; omega, KeepF.auto, Sub.autoP⟩
  · refine sr_nil ?_
    refine aw_kp [0, 1, 2, 3, 10, 11, 12, 13] ?_
    refine aw_false rfl ?_
    refine aw_exit ?_
    show ∃ v H2, ResV _ _ _ _ _ _ v ∧ Sub H2 _ ∧ _
    (obtain rfl : k = n2 := (by omega)); exact ⟨_, _, resV rfl .nil, Sub.refl _, cur, hmv, rfl, rfl⟩
set_option maxRecDepth 100000 in
set_option maxHeartbeats 1000000 in
theorem esRot_s (b cap n : Nat) (W : List Ent) (post : List Value) (G : SHeap) (hl : W.length = n) (hn : n ≤ 100000) (hcap : n ≤ cap) (hcb : cap ≤ 9223372036854775807) (s m e : Nat) (h1 : s < m) (h2 : m < e) (h3 : e ≤ n) : AC Tryd.prog W0 113 [.slice (some ⟨b, 0, none⟩) n cap, .int .i64 s, .int .i64 m, .int .i64 e, .func (.func 66) #[] #[]] ((b, .cells ((W).flatMap Ent.cells ++ post).toArray 30 (0, 0)) :: G) (fun v H' => ∃ W', Mv W (rotF s m e) W' ∧ v = .tuple #[] ∧ H' = (b, .cells ((W').flatMap Ent.cells ++ post).toArray 30 (0, 0)) :: G) := by
  refine ac_of Tryd.func113 rfl rfl rfl ?_
  refine aw_seq_region ?_
  refine sr_mv ?_
  refine sr_mv ?_
  refine sr_rd (x_cast (u := .int .i64 ((m - s : Nat) : Int)) (x_sub' rfl rfl (i64w (by omega) (by omega))) (by congr 1; omega)) ?_
  refine sr_as ?_
  refine sr_nil ?_
  refine aw_kp [0, 2, 3, 4, 10] ?_
  refine aw_seq_region ?_
  refine sr_mv ?_
  refine sr_mv ?_
  refine sr_rd (x_cast (u := .int .i64 ((e - m : Nat) : Int)) (x_sub' rfl rfl (i64w (by omega) (by omega))) (by congr 1; omega)) ?_
  refine sr_as ?_
  refine sr_nil ?_
  refine aw_kp [0, 2, 4, 10, 11] ?_
  refine aw_seq ?_
  refine aw_block ?_
  refine aw_loop (ι := RotG Ent) (fun s' => RotI W s m e s'.W s'.i s'.j) (fun s' => [(0, .slice (some ⟨b, 0, none⟩) n cap), (2, .int .i64 m), (4, .func (.func 66) #[] #[]), (10, .int .i64 s'.i), (11, .int .i64 s'.j)]) (fun s' => (b, .cells ((s'.W).flatMap Ent.cells ++ post).toArray 30 (0, 0)) :: G) (fun s' => s'.i + s'.j) ⟨m - s, e - m, W⟩ (RotI.start h1 h2) KeepF.auto Sub.autoP ?_
  intro s' hs9
  obtain ⟨i, j, cur⟩ := s'
  dsimp only at hs9 ⊢
  have hri := hs9
  obtain ⟨hcl, ⟨hb1, hb2, hb3, hb4⟩, -⟩ := hs9
  refine aw_seq ?_
  refine aw_seq_region ?_
  refine sr_mv ?_
  refine sr_mv ?_
  refine sr_c (x_ne rfl rfl) (fun h1 => ?_) (fun h1 => ?_)
  · refine sr_nil ?_
    refine aw_kp [0, 2, 4, 10, 11, 18, 19, 20] ?_
    refine aw_true rfl ?_
    refine aw_skip ?_
    show AW _ _ _ _ _ _ _
    refine aw_block ?_
    refine aw_seq_region ?_
    refine sr_mv ?_
    refine sr_mv ?_
    refine sr_c (x_gt rfl rfl) (fun h2 => ?_) (fun h2 => ?_)
    · refine sr_nil ?_
      refine aw_kp [0, 2, 4, 10, 11, 18, 19, 20, 21, 22, 23] ?_
      refine aw_true rfl ?_
      refine aw_seq_region ?_
      refine sr_mv ?_
      refine sr_mv ?_
      refine sr_mv ?_
      refine sr_rd (x_cast (u := .int .i64 ((m - i : Nat) : Int)) (x_sub' rfl rfl (i64w (by omega) (by omega))) (by congr 1; omega)) ?_
      refine sr_mv ?_
      refine sr_mv ?_
      refine sr_mv ?_
      refine sr_d rfl (wtd_none rfl) rfl (opS_call rfl rfl rfl rfl cl126 (AC.sub Sub.autoP (esSwr_s b cap n cur post G (by omega) hn hcap hcb (m - i) m j (by omega) (by omega)))) ?_
      rintro _ _ ⟨W9, hm9, rfl, rfl⟩
      refine sr_nil ?_
      refine aw_kp [0, 2, 4, 10, 11, 18, 19, 20, 21, 22, 23, 24, 25, 26, 27, 28, 29, 30] ?_
      refine aw_region ?_
      refine sr_mv ?_
      refine sr_mv ?_
      refine sr_rd (x_cast (u := .int .i64 ((i - j : Nat) : Int)) (x_sub' rfl rfl (i64w (by omega) (by omega))) (by congr 1; omega)) ?_
      refine sr_as ?_
      refine sr_nil ?_
      show ∃ s', _ ∧ _ ∧ _ ∧ _
      first | exact ⟨⟨i - j, j, W9⟩, hri.gt (by omega) hm9, by dsimp only; omega, KeepF.auto, Sub.autoP⟩ | exact ⟨⟨i, j - i, W9⟩, hri.lt (by omega) hm9, by dsimp only; omega, KeepF.auto, Sub.autoP⟩
    · refine sr_nil ?_
      refine aw_kp [0, 2, 4, 10, 11, 18, 19, 20, 21, 22, 23] ?_
      refine aw_false rfl ?_
      refine aw_seq_region ?_
      refine sr_mv ?_
      refine sr_mv ?_
      refine sr_mv ?_
      refine sr_rd (x_cast (u := .int .i64 ((m - i : Nat) : Int)) (x_sub' rfl rfl (i64w (by omega) (by omega))) (by congr 1; omega)) ?_
      refine sr_mv ?_
      refine sr_mv ?_
      refine sr_rd (x_cast (u := .int .i64 ((m + j : Nat) : Int)) (x_add' rfl rfl (i64w (by omega) (by omega))) (by congr 1)) ?_
      refine sr_mv ?_
      refine sr_rd (x_cast (u := .int .i64 ((m + j - i : Nat) : Int)) (x_sub' rfl rfl (i64w (by omega) (by omega))) (by congr 1; omega)) ?_
      refine sr_mv ?_
      refine sr_mv ?_
      refine sr_d rfl (wtd_none rfl) rfl (opS_call rfl rfl rfl rfl cl126 (AC.sub Sub.autoP (esSwr_s b cap n cur post G (by omega) hn hcap hcb (m - i) (m + j - i) i (by omega) (by omega)))) ?_
      rintro _ _ ⟨W9, hm9, rfl, rfl⟩
      refine sr_nil ?_
      refine aw_kp [0, 2, 4, 10, 11, 18, 19, 20, 21, 22, 23, 35, 36, 37, 38, 39, 40, 41, 42, 43, 44, 45] ?_
      refine aw_region ?_
      refine sr_mv ?_
      refine sr_mv ?_
      refine sr_rd (x_cast (u := .int .i64 ((j - i : Nat) : Int)) (x_sub' rfl rfl (i64w (by omega) (by omega))) (by congr 1; omega)) ?_
      refine sr_as ?_
      refine sr_nil ?_
      show ∃ s', _ ∧ _ ∧ _ ∧ _
      first | exact ⟨⟨i - j, j, W9⟩, hri.gt (by omega) hm9, by dsimp only; omega, KeepF.auto, Sub.autoP⟩ | exact ⟨⟨i, j - i, W9⟩, hri.lt (by omega) hm9, by dsimp only; omega, KeepF.auto, Sub.autoP⟩
  · refine sr_nil ?_
    refine aw_kp [0, 2, 4, 10, 11, 18, 19, 20] ?_
    refine aw_false rfl ?_
    refine aw_exit ?_
    show AW _ _ _ _ _ _ _
    refine aw_region ?_
    obtain rfl : i = j := by omega
    refine sr_mv ?_
    refine sr_mv ?_
    refine sr_mv ?_
    refine sr_rd (x_cast (u := .int .i64 ((m - i : Nat) : Int)) (x_sub' rfl rfl (i64w (by omega) (by omega))) (by congr 1; omega)) ?_
    refine sr_mv ?_
    refine sr_mv ?_
    refine sr_mv ?_
    refine sr_d rfl (wtd_none rfl) rfl (opS_call rfl rfl rfl rfl cl126 (AC.sub Sub.autoP (esSwr_s b cap n cur post G (by omega) hn hcap hcb (m - i) m i (by omega) (by omega)))) ?_
    rintro _ _ ⟨W9, hm9, rfl, rfl⟩
    refine sr_nil ?_
    show ∃ v H2, ResV _ _ _ _ _ _ v ∧ Sub H2 _ ∧ _
    exact ⟨_, _, resV rfl .nil, Sub.refl _, W9, hri.eq hm9, rfl, rfl⟩
set_option maxRecDepth 100000 in
set_option maxHeartbeats 2000000 in
theorem esIns_s (b cap n : Nat) (W : List Ent) (post : List Value) (G : SHeap) (hl : W.length = n) (hn : n ≤ 100000) (hcap : n ≤ cap) (hcb : cap ≤ 9223372036854775807) (a e : Nat) (h1 : a ≤ e) (h2 : e ≤ n) (c : Ent → Ent → Int) (hcmp : ∀ x y V, Sub G V → AC Tryd.prog W0 66 [Ent.v x, Ent.v y] V (fun v H' => v = .int .i64 (c x y) ∧ H' = V)) (hsw : Swo c) : AC Tryd.prog W0 92 [.slice (some ⟨b, 0, none⟩) n cap, .int .i64 a, .int .i64 e, .func (.func 66) #[] #[]] ((b, .cells ((W).flatMap Ent.cells ++ post).toArray 30 (0, 0)) :: G) (fun v H' => ∃ W', Mg c W a e W' ∧ v = .tuple #[] ∧ H' = (b, .cells ((W').flatMap Ent.cells ++ post).toArray 30 (0, 0)) :: G) := by
  refine ac_of Tryd.func92 rfl rfl rfl ?_
  refine aw_seq_region ?_
  refine sr_mv ?_
  refine sr_rd (x_add' rfl rfl (i64w (by omega) (by omega))) ?_
  refine sr_as ?_
  refine sr_nil ?_
  refine aw_kp [0, 1, 2, 3, 8] ?_
  refine aw_block ?_
  refine aw_loop (ι := SortG Ent) (fun s => a + 1 ≤ s.k ∧ (s.k ≤ e ∨ s.k = a + 1) ∧ s.W.length = n ∧ St c W s.W ∧ InR W a e s.W ∧ SrtI c s.W a s.k) (fun s => [(0, .slice (some ⟨b, 0, none⟩) n cap), (1, .int .i64 a), (2, .int .i64 e), (3, .func (.func 66) #[] #[]), (8, .int .i64 s.k)]) (fun s => (b, .cells ((s.W).flatMap Ent.cells ++ post).toArray 30 (0, 0)) :: G) (fun s => e - s.k) ⟨a + 1, W⟩ (⟨Nat.le_refl _, .inr rfl, hl, St.refl _, InR.refl _ _ _, SrtI.one (Nat.le_refl _)⟩) KeepF.auto Sub.autoP ?_
  intro s hs9
  obtain ⟨i, cur⟩ := s
  dsimp only at hs9 ⊢
  obtain ⟨hi1, hi2, hcl, hst, hin, hsr⟩ := hs9
  refine aw_seq ?_
  refine aw_seq_region ?_
  refine sr_mv ?_
  refine sr_mv ?_
  refine sr_c (x_lt rfl rfl) (fun h1 => ?_) (fun h1 => ?_)
  · refine sr_nil ?_
    refine aw_kp [0, 1, 2, 3, 8, 12, 13, 14] ?_
    refine aw_true rfl ?_
    refine aw_skip ?_
    show AW _ _ _ _ _ _ _
    refine aw_seq ?_
    refine aw_block ?_
    refine aw_seq_region ?_
    refine sr_mv ?_
    refine sr_as ?_
    refine sr_nil ?_
    refine aw_kp [0, 1, 2, 3, 8, 9, 12, 13, 14, 17] ?_
    refine aw_block ?_
    refine aw_loop (ι := SortG Ent) (fun s => a ≤ s.k ∧ s.k ≤ i ∧ s.W.length = n ∧ Mv cur (rotF s.k i (i + 1)) s.W ∧ ∀ h, s.k ≤ h → h < i → c (gd cur i) (gd cur h) < 0) (fun s => [(0, .slice (some ⟨b, 0, none⟩) n cap), (1, .int .i64 a), (2, .int .i64 e), (3, .func (.func 66) #[] #[]), (8, .int .i64 i), (9, .int .i64 s.k)]) (fun s => (b, .cells ((s.W).flatMap Ent.cells ++ post).toArray 30 (0, 0)) :: G) (fun s => s.k) ⟨i, cur⟩ (⟨by dsimp only; omega, Nat.le_refl _, hcl, Mv.refl _ (rotF_self i), fun h q1 q2 => by dsimp only at q1; omega⟩) KeepF.auto Sub.autoP ?_
    intro s hs8
    obtain ⟨j, cur2⟩ := s
    dsimp only at hs8 ⊢
    obtain ⟨hj1, hj2, hcl2, hmv2, hlt2⟩ := hs8
    refine aw_seq ?_
    refine aw_seq_dr ⟨_, 17, 53, [[], [], [0, 1], [0, 1, 2], [0, 1, 2, 3], [0, 1, 2, 3], [0, 1, 2, 3], [0, 1, 2, 3, 5, 6], [0, 1, 2, 3, 5, 6, 7], [0, 1, 2, 3], [0, 1, 2, 3], [0, 1, 2, 3, 10], [0, 1, 2, 3, 9, 10, 11], [0, 1, 2, 3, 9, 10, 11, 12], [0, 1, 2, 3, 4, 5, 6, 7, 8, 9, 10, 11, 12, 13], [0, 1, 2, 3, 4, 5, 6, 7, 8, 9, 10, 11, 12, 13, 14], [0, 1, 2, 3, 4, 5, 6, 7, 8, 9, 10, 11, 12, 13, 14, 15]], [.light, .light, .light, .light, .light, .light, .light, .light, .mem, .light, .light, .light, .light, .mem, .call, .light, .light]⟩ (by kernel_rfl) rfl rfl mix ?_
    refine dr_l (x_move rfl) ?_
    refine dr_l (x_move rfl) ?_
    refine dr_cmp rfl rfl (wtd_none rfl) (x_gt rfl rfl) (fun h2 => ?_) (fun h2 => ?_)
    · refine dr_l (x_move rfl) ?_
      refine dr_y (x_move rfl) ?_
      refine dr_y (x_move rfl) ?_
      refine dr_y (x_move rfl) ?_
      refine dr_y (x_indexAddrN (j) Tryd.underlying24 sz30 rfl rfl rfl (by omega) (by omega)) ?_
      refine dr_mem0 rfl rfl (wtd_yes rfl rfl rfl) (x_loadN ag30 sz30 rfl ((cells_flat0 (n := 6) (enc := Ent.cells) (fun _ => rfl) (xs := cur2) (post := post) (show (b, Obj.cells ((cur2).flatMap Ent.cells ++ post).toArray 30 (0, 0)) ∈ _ from mauto) (gd_some (by omega)))) rfl) ?_
      refine dr_y (x_move rfl) ?_
      refine dr_y (x_move rfl) ?_
      refine dr_y (x_cast (u := .int .i64 ((j - 1 : Nat) : Int)) (x_sub' rfl rfl (i64w (by omega) (by omega))) (by congr 1; omega)) ?_
      refine dr_y (x_indexAddrN (j - 1) Tryd.underlying24 sz30 rfl rfl rfl (by omega) (by omega)) ?_
      refine dr_mem0 rfl rfl (wtd_yes rfl rfl rfl) (x_loadN ag30 sz30 rfl ((cells_flat0 (n := 6) (enc := Ent.cells) (fun _ => rfl) (xs := cur2) (post := post) (show (b, Obj.cells ((cur2).flatMap Ent.cells ++ post).toArray 30 (0, 0)) ∈ _ from mauto) (gd_some (by omega)))) rfl) ?_
      refine dr_callq0 rfl rfl (wtd_yes rfl rfl rfl) (opS_F rfl rfl rfl rfl cl66 ((hcmp (gd cur2 j) (gd cur2 (j - 1)) _ Sub.autoR))) (⟨_, rfl⟩) ?_
      rintro _ rfl
      refine dr_cmp rfl rfl (wtd_yes rfl rfl rfl) (x_lt rfl rfl) (fun h3 => ?_) (fun h3 => ?_)
      · refine dr_l (x_pick_t rfl rfl rfl) ?_
        refine dr_nil0 ?_
        refine aw_kp [0, 1, 2, 3, 8, 9, 18, 19, 20, 21, 22, 23, 24, 25, 26, 27, 28, 29, 30, 31, 32, 33, 34] ?_
        refine aw_true rfl ?_
        refine aw_skip ?_
        show AW _ _ _ _ _ _ _
        refine aw_seq ?_
        refine aw_block ?_
        refine aw_dr ⟨_, 18, 53, [[], [], [], [], [3], [], [], [6], [5, 6, 7], [5, 6, 7, 8], [], [], [10, 11], [10, 11, 12], [0, 1, 5, 6, 7, 8, 9, 10, 11, 12, 13], [0, 1, 5, 6, 7, 8, 9, 10, 11, 12, 13, 14], [0, 1, 2, 3, 4, 5, 6, 7, 8, 9, 10, 11, 12, 13, 14, 15], [0, 1, 2, 3, 4, 5, 6, 7, 8, 9, 10, 11, 12, 13, 14, 15, 16]], [.light, .light, .light, .light, .light, .light, .light, .light, .light, .mem, .light, .light, .light, .mem, .light, .eff, .light, .eff]⟩ (by kernel_rfl) rfl rfl mix ?_
        refine dr_l (x_move rfl) ?_
        refine dr_l (x_move rfl) ?_
        refine dr_l (x_move rfl) ?_
        refine dr_l (x_move rfl) ?_
        refine dr_l (x_cast (u := .int .i64 ((j - 1 : Nat) : Int)) (x_sub' rfl rfl (i64w (by omega) (by omega))) (by congr 1; omega)) ?_
        refine dr_l (x_move rfl) ?_
        refine dr_l (x_move rfl) ?_
        refine dr_l (x_cast (u := .int .i64 ((j - 1 : Nat) : Int)) (x_sub' rfl rfl (i64w (by omega) (by omega))) (by congr 1; omega)) ?_
        refine dr_l (x_indexAddrN (j - 1) Tryd.underlying24 sz30 rfl rfl rfl (by omega) (by omega)) ?_
        refine dr_mem0 rfl rfl (wtd_none rfl) (x_loadN ag30 sz30 rfl ((cells_flat0 (n := 6) (enc := Ent.cells) (fun _ => rfl) (xs := cur2) (post := post) (show (b, Obj.cells ((cur2).flatMap Ent.cells ++ post).toArray 30 (0, 0)) ∈ _ from mauto) (gd_some (by omega)))) rfl) ?_
        refine dr_l (x_move rfl) ?_
        refine dr_l (x_move rfl) ?_
        refine dr_l (x_indexAddrN (j) Tryd.underlying24 sz30 rfl rfl rfl (by omega) (by omega)) ?_
        refine dr_mem0 rfl rfl (wtd_none rfl) (x_loadN ag30 sz30 rfl ((cells_flat0 (n := 6) (enc := Ent.cells) (fun _ => rfl) (xs := cur2) (post := post) (show (b, Obj.cells ((cur2).flatMap Ent.cells ++ post).toArray 30 (0, 0)) ∈ _ from mauto) (gd_some (by omega)))) rfl) ?_
        refine dr_l (x_indexAddrN (j) Tryd.underlying24 sz30 rfl rfl rfl (by omega) (by omega)) ?_
        refine dr_store0 rfl rfl (wtd_none rfl) (x_store sz30 rfl rfl rfl rfl rfl Repl.auto (spl_flat0 (n := 6) (enc := Ent.cells) (fun _ => rfl) (xs := cur2) (post := post) (i := (j)) (x' := gd cur2 (j - 1)) (by first | omega | (rw [List.length_set]; omega)))) (by first | rfl | simp [keys_append, keys_cons]) ?_
        refine dr_l (x_indexAddrN (j - 1) Tryd.underlying24 sz30 rfl rfl rfl (by omega) (by omega)) ?_
        refine dr_store0 rfl rfl (wtd_none rfl) (x_store sz30 rfl rfl rfl rfl rfl Repl.auto (spl_flat0 (n := 6) (enc := Ent.cells) (fun _ => rfl) (xs := ((cur2).set (j) (gd cur2 (j - 1)))) (post := post) (i := (j - 1)) (x' := gd cur2 (j)) (by first | omega | (rw [List.length_set]; omega)))) (by first | rfl | simp [keys_append, keys_cons]) ?_
        refine dr_nil0 ?_
        show AW _ _ _ _ _ _ _
        refine aw_region ?_
        refine sr_mv ?_
        refine sr_rd (x_cast (u := .int .i64 ((j - 1 : Nat) : Int)) (x_sub' rfl rfl (i64w (by omega) (by omega))) (by congr 1; omega)) ?_
        refine sr_as ?_
        refine sr_nil ?_
        show ∃ s', _ ∧ _ ∧ _ ∧ _
        exact ⟨⟨j - 1, sw cur2 j (j - 1)⟩, ⟨by dsimp only; omega, by dsimp only; omega, sw_len.trans hcl2, insr_step (by omega) hj2 (by omega) hlt2 hmv2 (by assumption)⟩, by dsimp only; omega, KeepF.auto, Sub.autoP⟩
      · refine dr_l (x_pick_t rfl rfl rfl) ?_
        refine dr_nil0 ?_
        refine aw_kp [0, 1, 2, 3, 8, 9, 18, 19, 20, 21, 22, 23, 24, 25, 26, 27, 28, 29, 30, 31, 32, 33, 34] ?_
        refine aw_false rfl ?_
        refine aw_exit ?_
        show AW _ _ _ _ _ _ _
        refine aw_region ?_
        refine sr_mv ?_
        refine sr_rd (x_add' rfl rfl (i64w (by omega) (by omega))) ?_
        refine sr_as ?_
        refine sr_nil ?_
        show ∃ s', _ ∧ _ ∧ _ ∧ _
        first | exact ⟨⟨i + 1, cur2⟩, ⟨by dsimp only; omega, .inl (by dsimp only; omega), hcl2, hst.trans (insr_end hsw hj1 hj2 (by omega) hsr hlt2 hmv2 (fun _ => by assumption)).1, hin.trans ((insr_end hsw hj1 hj2 (by omega) hsr hlt2 hmv2 (fun _ => by assumption)).2.1.wide (Nat.le_refl _) (by omega)), (insr_end hsw hj1 hj2 (by omega) hsr hlt2 hmv2 (fun _ => by assumption)).2.2⟩, by dsimp only; omega, KeepF.auto, Sub.autoP⟩ | exact ⟨⟨i + 1, cur2⟩, ⟨by dsimp only; omega, .inl (by dsimp only; omega), hcl2, hst.trans (insr_end hsw hj1 hj2 (by omega) hsr hlt2 hmv2 (fun h => by omega)).1, hin.trans ((insr_end hsw hj1 hj2 (by omega) hsr hlt2 hmv2 (fun h => by omega)).2.1.wide (Nat.le_refl _) (by omega)), (insr_end hsw hj1 hj2 (by omega) hsr hlt2 hmv2 (fun h => by omega)).2.2⟩, by dsimp only; omega, KeepF.auto, Sub.autoP⟩
    · refine dr_l (x_move rfl) ?_
      refine dr_sk ?_
      refine dr_sk ?_
      refine dr_sk ?_
      refine dr_sk ?_
      refine dr_sk ?_
      refine dr_sk ?_
      refine dr_sk ?_
      refine dr_sk ?_
      refine dr_sk ?_
      refine dr_sk ?_
      refine dr_sk ?_
      refine dr_sk ?_
      refine dr_l (x_pick_f rfl rfl rfl) ?_
      refine dr_nil0 ?_
      refine aw_kp [0, 1, 2, 3, 8, 9, 18, 19, 20, 21, 22, 23, 24, 25, 26, 27, 28, 29, 30, 31, 32, 33, 34] ?_
      refine aw_false rfl ?_
      refine aw_exit ?_
      show AW _ _ _ _ _ _ _
      refine aw_region ?_
      refine sr_mv ?_
      refine sr_rd (x_add' rfl rfl (i64w (by omega) (by omega))) ?_
      refine sr_as ?_
      refine sr_nil ?_
      show ∃ s', _ ∧ _ ∧ _ ∧ _
      first | exact ⟨⟨i + 1, cur2⟩, ⟨by dsimp only; omega, .inl (by dsimp only; omega), hcl2, hst.trans (insr_end hsw hj1 hj2 (by omega) hsr hlt2 hmv2 (fun _ => by assumption)).1, hin.trans ((insr_end hsw hj1 hj2 (by omega) hsr hlt2 hmv2 (fun _ => by assumption)).2.1.wide (Nat.le_refl _) (by omega)), (insr_end hsw hj1 hj2 (by omega) hsr hlt2 hmv2 (fun _ => by assumption)).2.2⟩, by dsimp only; omega, KeepF.auto, Sub.autoP⟩ | exact ⟨⟨i + 1, cur2⟩, ⟨by dsimp only; omega, .inl (by dsimp only; omega), hcl2, hst.trans (insr_end hsw hj1 hj2 (by omega) hsr hlt2 hmv2 (fun h => by omega)).1, hin.trans ((insr_end hsw hj1 hj2 (by omega) hsr hlt2 hmv2 (fun h => by omega)).2.1.wide (Nat.le_refl _) (by omega)), (insr_end hsw hj1 hj2 (by omega) hsr hlt2 hmv2 (fun h => by omega)).2.2⟩, by dsimp only; omega, KeepF.auto, Sub.autoP⟩
  · refine sr_nil ?_
    refine aw_kp [0, 1, 2, 3, 8, 12, 13, 14] ?_
    refine aw_false rfl ?_
    refine aw_exit ?_
    show ∃ v H2, ResV _ _ _ _ _ _ v ∧ Sub H2 _ ∧ _
    exact ⟨_, _, resV rfl .nil, Sub.refl _, cur, ⟨hst, hin, hsr.up (by omega)⟩, rfl, rfl⟩
set_option maxRecDepth 100000 in
set_option maxHeartbeats 8000000 in
theorem esSmW_s (b cap n : Nat) (W : List Ent) (post : List Value) (G : SHeap) (hl : W.length = n) (hn : n ≤ 100000) (hcap : n ≤ cap) (hcb : cap ≤ 9223372036854775807) (a m e : Nat) (h1 : a < m) (h2 : m < e) (h3 : e ≤ n) (c : Ent → Ent → Int) (hcmp : ∀ x y V, Sub G V → AC Tryd.prog W0 66 [Ent.v x, Ent.v y] V (fun v H' => v = .int .i64 (c x y) ∧ H' = V)) (hsw : Swo c) (hA : SrtI c W a m) (hB : SrtI c W m e) (ih : ∀ (W1 : List Ent) (a1 m1 e1 : Nat), W1.length = n → e1 - a1 < e - a → a1 < m1 → m1 < e1 → e1 ≤ n → SrtI c W1 a1 m1 → SrtI c W1 m1 e1 → AC Tryd.prog W0 93 [.slice (some ⟨b, 0, none⟩) n cap, .int .i64 (a1 : Nat), .int .i64 (m1 : Nat), .int .i64 (e1 : Nat), .func (.func 66) #[] #[]] ((b, .cells ((W1).flatMap Ent.cells ++ post).toArray 30 (0, 0)) :: G) (fun v H' => ∃ W', Mg c W1 a1 e1 W' ∧ v = .tuple #[] ∧ H' = (b, .cells ((W').flatMap Ent.cells ++ post).toArray 30 (0, 0)) :: G)) : AC Tryd.prog W0 93 [.slice (some ⟨b, 0, none⟩) n cap, .int .i64 a, .int .i64 m, .int .i64 e, .func (.func 66) #[] #[]] ((b, .cells ((W).flatMap Ent.cells ++ post).toArray 30 (0, 0)) :: G) (fun v H' => ∃ W', Mg c W a e W' ∧ v = .tuple #[] ∧ H' = (b, .cells ((W').flatMap Ent.cells ++ post).toArray 30 (0, 0)) :: G) := by
  refine ac_of Tryd.func93 rfl rfl rfl ?_
  refine aw_seq ?_
  refine aw_seq_region ?_
  refine sr_mv ?_
  refine sr_mv ?_
  refine sr_rd (x_sub' rfl rfl (i64w (by omega) (by omega))) ?_
  refine sr_c (x_eq rfl rfl) (fun h1 => ?_) (fun h1 => ?_)
  · refine sr_nil ?_
    refine aw_kp [0, 1, 2, 3, 4, 28] ?_
    refine aw_true rfl ?_
    refine aw_seq_region ?_
    refine sr_mv ?_
    refine sr_as ?_
    refine sr_nil ?_
    refine aw_kp [0, 1, 2, 3, 4, 10] ?_
    refine aw_seq_region ?_
    refine sr_mv ?_
    refine sr_as ?_
    refine sr_nil ?_
    refine aw_kp [0, 1, 2, 3, 4, 10, 11] ?_
    refine aw_seq ?_
    refine aw_block ?_
    refine aw_loop (ι := SeaG) (fun s => Sea (fun h => ¬ c (gd W h) (gd W a) < 0) m e s.i s.j) (fun s => [(0, .slice (some ⟨b, 0, none⟩) n cap), (1, .int .i64 a), (4, .func (.func 66) #[] #[]), (10, .int .i64 s.i), (11, .int .i64 s.j)]) (fun _ => (b, .cells ((W).flatMap Ent.cells ++ post).toArray 30 (0, 0)) :: G) (fun s => s.j - s.i) ⟨m, e⟩ (Sea.start (by omega)) KeepF.auto Sub.autoP ?_
    intro s hs9
    obtain ⟨i, j⟩ := s
    dsimp only at hs9 ⊢
    have hse := hs9
    obtain ⟨hb1, hb2, hb3, hb4, hb5⟩ := hs9
    refine aw_seq ?_
    refine aw_seq_region ?_
    refine sr_mv ?_
    refine sr_mv ?_
    refine sr_c (x_lt rfl rfl) (fun h2 => ?_) (fun h2 => ?_)
    · refine sr_nil ?_
      refine aw_kp [0, 1, 4, 10, 11, 31, 32, 33] ?_
      refine aw_true rfl ?_
      refine aw_skip ?_
      show AW _ _ _ _ _ _ _
      refine aw_block ?_
      refine aw_seq_region ?_
      refine sr_mv ?_
      refine sr_mv ?_
      refine sr_rd (x_add' rfl rfl (i64w (by omega) (by omega))) ?_
      refine sr_rd (x_conv' Tryd.underlying3 Tryd.underlying124 rfl (u64w (by omega) (by omega))) ?_
      refine sr_rd (x_cast (x_shr rfl rfl (by omega)) (shrH (i) (j))) ?_
      refine sr_rd (x_conv' Tryd.underlying124 Tryd.underlying3 rfl (i64w (by omega) (by omega))) ?_
      refine sr_as ?_
      refine sr_nil ?_
      refine aw_kp [0, 1, 4, 10, 11, 12, 31, 32, 33, 34, 35, 36, 37, 38, 39] ?_
      refine aw_seq_dr ⟨_, 11, 220, [[], [], [], [1, 2], [1, 2, 3], [], [], [5, 6], [5, 6, 7], [0, 1, 2, 3, 4, 5, 6, 7, 8], [0, 1, 2, 3, 4, 5, 6, 7, 8, 9]], [.light, .light, .light, .light, .mem, .light, .light, .light, .mem, .call, .light]⟩ (by kernel_rfl) rfl rfl mix ?_
      refine dr_l (x_move rfl) ?_
      refine dr_l (x_move rfl) ?_
      refine dr_l (x_move rfl) ?_
      refine dr_l (x_indexAddrN ((i + j) / 2) Tryd.underlying24 sz30 rfl rfl rfl (by omega) (by omega)) ?_
      refine dr_mem0 rfl rfl (wtd_none rfl) (x_loadN ag30 sz30 rfl ((cells_flat0 (n := 6) (enc := Ent.cells) (fun _ => rfl) (xs := W) (post := post) (show (b, Obj.cells ((W).flatMap Ent.cells ++ post).toArray 30 (0, 0)) ∈ _ from mauto) (gd_some (by omega)))) rfl) ?_
      refine dr_l (x_move rfl) ?_
      refine dr_l (x_move rfl) ?_
      refine dr_l (x_indexAddrN (a) Tryd.underlying24 sz30 rfl rfl rfl (by omega) (by omega)) ?_
      refine dr_mem0 rfl rfl (wtd_none rfl) (x_loadN ag30 sz30 rfl ((cells_flat0 (n := 6) (enc := Ent.cells) (fun _ => rfl) (xs := W) (post := post) (show (b, Obj.cells ((W).flatMap Ent.cells ++ post).toArray 30 (0, 0)) ∈ _ from mauto) (gd_some (by omega)))) rfl) ?_
      refine dr_callq0 rfl rfl (wtd_none rfl) (opS_F rfl rfl rfl rfl cl66 ((hcmp (gd W ((i + j) / 2)) (gd W a) _ Sub.autoR))) (⟨_, rfl⟩) ?_
      rintro _ rfl
      refine dr_cmp rfl rfl (wtd_none rfl) (x_lt rfl rfl) (fun h3 => ?_) (fun h3 => ?_)
      · refine dr_nil0 ?_
        refine aw_kp [0, 1, 4, 10, 11, 12, 31, 32, 33, 34, 35, 36, 37, 38, 39, 40, 41, 42, 43, 44, 45, 46, 47, 48, 49, 50] ?_
        refine aw_true rfl ?_
        refine aw_region ?_
        refine sr_mv ?_
        refine sr_rd (x_add' rfl rfl (i64w (by omega) (by omega))) ?_
        refine sr_as ?_
        refine sr_nil ?_
        show ∃ s', _ ∧ _ ∧ _ ∧ _
        first | exact ⟨⟨(i + j) / 2 + 1, j⟩, hse.right (mono_up hsw hB) (by omega) (fun h => h (by assumption)), by dsimp only; omega, KeepF.auto, Sub.autoP⟩ | exact ⟨⟨i, (i + j) / 2⟩, hse.left (mono_up hsw hB) (by omega) (by assumption), by dsimp only; omega, KeepF.auto, Sub.autoP⟩
      · refine dr_nil0 ?_
        refine aw_kp [0, 1, 4, 10, 11, 12, 31, 32, 33, 34, 35, 36, 37, 38, 39, 40, 41, 42, 43, 44, 45, 46, 47, 48, 49, 50] ?_
        refine aw_false rfl ?_
        refine aw_region ?_
        refine sr_mv ?_
        refine sr_as ?_
        refine sr_nil ?_
        show ∃ s', _ ∧ _ ∧ _ ∧ _
        first | exact ⟨⟨(i + j) / 2 + 1, j⟩, hse.right (mono_up hsw hB) (by omega) (fun h => h (by assumption)), by dsimp only; omega, KeepF.auto, Sub.autoP⟩ | exact ⟨⟨i, (i + j) / 2⟩, hse.left (mono_up hsw hB) (by omega) (by assumption), by dsimp only; omega, KeepF.auto, Sub.autoP⟩
    · refine sr_nil ?_
      refine aw_kp [0, 1, 4, 10, 11, 31, 32, 33] ?_
      refine aw_false rfl ?_
      refine aw_exit ?_
      show AW _ _ _ _ _ _ _
      refine aw_seq ?_
      refine aw_seq_region ?_
      refine sr_mv ?_
      refine sr_as ?_
      refine sr_nil ?_
      refine aw_kp [0, 1, 4, 10, 13] ?_
      refine aw_block ?_
      refine aw_loop (ι := SortG Ent) (fun s => a ≤ s.k ∧ s.k + 1 ≤ i ∧ s.W.length = n ∧ Mv W (rotF a (a + 1) (s.k + 1)) s.W) (fun s => [(0, .slice (some ⟨b, 0, none⟩) n cap), (10, .int .i64 i), (13, .int .i64 s.k)]) (fun s => (b, .cells ((s.W).flatMap Ent.cells ++ post).toArray 30 (0, 0)) :: G) (fun s => i - s.k) ⟨a, W⟩ (⟨Nat.le_refl _, by dsimp only; omega, hl, Mv.refl _ (rotF_one a)⟩) KeepF.auto Sub.autoP ?_
      intro s hs9
      obtain ⟨k, cur⟩ := s
      dsimp only at hs9 ⊢
      obtain ⟨hk1, hk2, hcl, hmv⟩ := hs9
      refine aw_seq ?_
      refine aw_seq_region ?_
      refine sr_mv ?_
      refine sr_mv ?_
      refine sr_rd (x_sub' rfl rfl (i64w (by omega) (by omega))) ?_
      refine sr_c (x_lt rfl rfl) (fun h4 => ?_) (fun h4 => ?_)
      · refine sr_nil ?_
        refine aw_kp [0, 10, 13, 55, 56, 57, 58] ?_
        refine aw_true rfl ?_
        refine aw_skip ?_
        show AW _ _ _ _ _ _ _
        refine aw_seq ?_
        refine aw_block ?_
        refine aw_dr ⟨_, 18, 220, [[], [], [], [], [3], [], [], [6], [5, 6, 7], [5, 6, 7, 8], [], [], [10, 11], [10, 11, 12], [0, 1, 5, 6, 7, 8, 9, 10, 11, 12, 13], [0, 1, 5, 6, 7, 8, 9, 10, 11, 12, 13, 14], [0, 1, 2, 3, 4, 5, 6, 7, 8, 9, 10, 11, 12, 13, 14, 15], [0, 1, 2, 3, 4, 5, 6, 7, 8, 9, 10, 11, 12, 13, 14, 15, 16]], [.light, .light, .light, .light, .light, .light, .light, .light, .light, .mem, .light, .light, .light, .mem, .light, .eff, .light, .eff]⟩ (by kernel_rfl) rfl rfl mix ?_
        refine dr_l (x_move rfl) ?_
        refine dr_l (x_move rfl) ?_
        refine dr_l (x_move rfl) ?_
        refine dr_l (x_move rfl) ?_
        refine dr_l (x_add' rfl rfl (i64w (by omega) (by omega))) ?_
        refine dr_l (x_move rfl) ?_
        refine dr_l (x_move rfl) ?_
        refine dr_l (x_add' rfl rfl (i64w (by omega) (by omega))) ?_
        refine dr_l (x_indexAddrN (k + 1) Tryd.underlying24 sz30 rfl rfl rfl (by omega) (by omega)) ?_
        refine dr_mem0 rfl rfl (wtd_none rfl) (x_loadN ag30 sz30 rfl ((cells_flat0 (n := 6) (enc := Ent.cells) (fun _ => rfl) (xs := cur) (post := post) (show (b, Obj.cells ((cur).flatMap Ent.cells ++ post).toArray 30 (0, 0)) ∈ _ from mauto) (gd_some (by omega)))) rfl) ?_
        refine dr_l (x_move rfl) ?_
        refine dr_l (x_move rfl) ?_
        refine dr_l (x_indexAddrN (k) Tryd.underlying24 sz30 rfl rfl rfl (by omega) (by omega)) ?_
        refine dr_mem0 rfl rfl (wtd_none rfl) (x_loadN ag30 sz30 rfl ((cells_flat0 (n := 6) (enc := Ent.cells) (fun _ => rfl) (xs := cur) (post := post) (show (b, Obj.cells ((cur).flatMap Ent.cells ++ post).toArray 30 (0, 0)) ∈ _ from mauto) (gd_some (by omega)))) rfl) ?_
        refine dr_l (x_indexAddrN (k) Tryd.underlying24 sz30 rfl rfl rfl (by omega) (by omega)) ?_
        refine dr_store0 rfl rfl (wtd_none rfl) (x_store sz30 rfl rfl rfl rfl rfl Repl.auto (spl_flat0 (n := 6) (enc := Ent.cells) (fun _ => rfl) (xs := cur) (post := post) (i := (k)) (x' := gd cur (k + 1)) (by first | omega | (rw [List.length_set]; omega)))) (by first | rfl | simp [keys_append, keys_cons]) ?_
        refine dr_l (x_indexAddrN (k + 1) Tryd.underlying24 sz30 rfl rfl rfl (by omega) (by omega)) ?_
        refine dr_store0 rfl rfl (wtd_none rfl) (x_store sz30 rfl rfl rfl rfl rfl Repl.auto (spl_flat0 (n := 6) (enc := Ent.cells) (fun _ => rfl) (xs := ((cur).set (k) (gd cur (k + 1)))) (post := post) (i := (k + 1)) (x' := gd cur (k)) (by first | omega | (rw [List.length_set]; omega)))) (by first | rfl | simp [keys_append, keys_cons]) ?_
        refine dr_nil0 ?_
        show AW _ _ _ _ _ _ _
        refine aw_region ?_
        refine sr_mv ?_
        refine sr_rd (x_add' rfl rfl (i64w (by omega) (by omega))) ?_
        refine sr_as ?_
        refine sr_nil ?_
        show ∃ s', _ ∧ _ ∧ _ ∧ _
        exact ⟨⟨k + 1, sw cur k (k + 1)⟩, ⟨by dsimp only; omega, by dsimp only; omega, sw_len.trans hcl, hmv.sw (by omega) (by omega) (rotF_up hk1)⟩, by dsimp only; omega, KeepF.auto, Sub.autoP⟩
      · refine sr_nil ?_
        refine aw_kp [0, 10, 13, 55, 56, 57, 58] ?_
        refine aw_false rfl ?_
        refine aw_exit ?_
        show AW _ _ _ _ _ _ _
        refine aw_ret ?_
        show ∃ v H2, ResV _ _ _ _ _ _ v ∧ Sub H2 _ ∧ _
        first | (obtain rfl : i = j := (by omega); obtain rfl : m = a + 1 := (by omega); obtain rfl : i = k + 1 := (by omega); exact ⟨_, _, resV rfl .nil, Sub.refl _, cur, Mg.one_up hsw (by omega) (by omega) (by omega) hB (fun h q1 q2 => Classical.not_not.1 (hb4 h q1 q2)) hb5 hmv, rfl, rfl⟩) | (obtain rfl : i = j := (by omega); obtain rfl : e = m + 1 := (by omega); obtain rfl : k = i := (by omega); exact ⟨_, _, resV rfl .nil, Sub.refl _, cur, Mg.one_down hsw (by omega) (by omega) (by omega) hA hb4 hb5 hmv, rfl, rfl⟩) | exact ⟨_, _, resV rfl .nil, Sub.refl _, W3, merge_end (by omega) hst1 hin1 hp4 hmg2 hmg3, rfl, rfl⟩ | exact ⟨_, _, resV rfl .nil, Sub.refl _, W2, merge_end (by omega) hst1 hin1 hp4 hmg2 (Mg.triv (s := d + m - i) (by omega) (hp4.2.2.1.same fun k q1 q2 => hmg2.2.1.2.1 k (by omega)) (hp4.2.2.2.1.same fun k q1 q2 => hmg2.2.1.2.1 k (by omega))), rfl, rfl⟩
  · refine sr_nil ?_
    refine aw_kp [0, 1, 2, 3, 4, 28] ?_
    refine aw_false rfl ?_
    refine aw_skip ?_
    show AW _ _ _ _ _ _ _
    refine aw_seq ?_
    refine aw_seq_region ?_
    refine sr_mv ?_
    refine sr_mv ?_
    refine sr_rd (x_sub' rfl rfl (i64w (by omega) (by omega))) ?_
    refine sr_c (x_eq rfl rfl) (fun h5 => ?_) (fun h5 => ?_)
    · refine sr_nil ?_
      refine aw_kp [0, 1, 2, 3, 4, 80] ?_
      refine aw_true rfl ?_
      refine aw_seq_region ?_
      refine sr_mv ?_
      refine sr_as ?_
      refine sr_nil ?_
      refine aw_kp [0, 1, 2, 3, 4, 14] ?_
      refine aw_seq_region ?_
      refine sr_mv ?_
      refine sr_as ?_
      refine sr_nil ?_
      refine aw_kp [0, 1, 2, 3, 4, 14, 15] ?_
      refine aw_seq ?_
      refine aw_block ?_
      refine aw_loop (ι := SeaG) (fun s => Sea (fun h => c (gd W m) (gd W h) < 0) a m s.i s.j) (fun s => [(0, .slice (some ⟨b, 0, none⟩) n cap), (2, .int .i64 m), (4, .func (.func 66) #[] #[]), (14, .int .i64 s.i), (15, .int .i64 s.j)]) (fun _ => (b, .cells ((W).flatMap Ent.cells ++ post).toArray 30 (0, 0)) :: G) (fun s => s.j - s.i) ⟨a, m⟩ (Sea.start (by omega)) KeepF.auto Sub.autoP ?_
      intro s hs9
      obtain ⟨i, j⟩ := s
      dsimp only at hs9 ⊢
      have hse := hs9
      obtain ⟨hb1, hb2, hb3, hb4, hb5⟩ := hs9
      refine aw_seq ?_
      refine aw_seq_region ?_
      refine sr_mv ?_
      refine sr_mv ?_
      refine sr_c (x_lt rfl rfl) (fun h6 => ?_) (fun h6 => ?_)
      · refine sr_nil ?_
        refine aw_kp [0, 2, 4, 14, 15, 83, 84, 85] ?_
        refine aw_true rfl ?_
        refine aw_skip ?_
        show AW _ _ _ _ _ _ _
        refine aw_block ?_
        refine aw_seq_region ?_
        refine sr_mv ?_
        refine sr_mv ?_
        refine sr_rd (x_add' rfl rfl (i64w (by omega) (by omega))) ?_
        refine sr_rd (x_conv' Tryd.underlying3 Tryd.underlying124 rfl (u64w (by omega) (by omega))) ?_
        refine sr_rd (x_cast (x_shr rfl rfl (by omega)) (shrH (i) (j))) ?_
        refine sr_rd (x_conv' Tryd.underlying124 Tryd.underlying3 rfl (i64w (by omega) (by omega))) ?_
        refine sr_as ?_
        refine sr_nil ?_
        refine aw_kp [0, 2, 4, 14, 15, 16, 83, 84, 85, 86, 87, 88, 89, 90, 91] ?_
        refine aw_seq_dr ⟨_, 12, 220, [[], [], [], [1, 2], [1, 2, 3], [], [], [5, 6], [5, 6, 7], [0, 1, 2, 3, 4, 5, 6, 7, 8], [0, 1, 2, 3, 4, 5, 6, 7, 8, 9], [0, 1, 2, 3, 4, 5, 6, 7, 8, 9, 10]], [.light, .light, .light, .light, .mem, .light, .light, .light, .mem, .call, .light, .light]⟩ (by kernel_rfl) rfl rfl mix ?_
        refine dr_l (x_move rfl) ?_
        refine dr_l (x_move rfl) ?_
        refine dr_l (x_move rfl) ?_
        refine dr_l (x_indexAddrN (m) Tryd.underlying24 sz30 rfl rfl rfl (by omega) (by omega)) ?_
        refine dr_mem0 rfl rfl (wtd_none rfl) (x_loadN ag30 sz30 rfl ((cells_flat0 (n := 6) (enc := Ent.cells) (fun _ => rfl) (xs := W) (post := post) (show (b, Obj.cells ((W).flatMap Ent.cells ++ post).toArray 30 (0, 0)) ∈ _ from mauto) (gd_some (by omega)))) rfl) ?_
        refine dr_l (x_move rfl) ?_
        refine dr_l (x_move rfl) ?_
        refine dr_l (x_indexAddrN ((i + j) / 2) Tryd.underlying24 sz30 rfl rfl rfl (by omega) (by omega)) ?_
        refine dr_mem0 rfl rfl (wtd_none rfl) (x_loadN ag30 sz30 rfl ((cells_flat0 (n := 6) (enc := Ent.cells) (fun _ => rfl) (xs := W) (post := post) (show (b, Obj.cells ((W).flatMap Ent.cells ++ post).toArray 30 (0, 0)) ∈ _ from mauto) (gd_some (by omega)))) rfl) ?_
        refine dr_callq0 rfl rfl (wtd_none rfl) (opS_F rfl rfl rfl rfl cl66 ((hcmp (gd W m) (gd W ((i + j) / 2)) _ Sub.autoR))) (⟨_, rfl⟩) ?_
        rintro _ rfl
        refine dr_cmp rfl rfl (wtd_none rfl) (x_lt rfl rfl) (fun h7 => ?_) (fun h7 => ?_)
        · refine dr_l (x_not rfl) ?_
          refine dr_nil0 ?_
          refine aw_kp [0, 2, 4, 14, 15, 16, 83, 84, 85, 86, 87, 88, 89, 90, 91, 92, 93, 94, 95, 96, 97, 98, 99, 100, 101, 102, 103] ?_
          refine aw_false rfl ?_
          refine aw_region ?_
          refine sr_mv ?_
          refine sr_as ?_
          refine sr_nil ?_
          show ∃ s', _ ∧ _ ∧ _ ∧ _
          first | exact ⟨⟨(i + j) / 2 + 1, j⟩, hse.right (mono_dn hsw hA) (by omega) (by assumption), by dsimp only; omega, KeepF.auto, Sub.autoP⟩ | exact ⟨⟨i, (i + j) / 2⟩, hse.left (mono_dn hsw hA) (by omega) (by assumption), by dsimp only; omega, KeepF.auto, Sub.autoP⟩
        · refine dr_l (x_not rfl) ?_
          refine dr_nil0 ?_
          refine aw_kp [0, 2, 4, 14, 15, 16, 83, 84, 85, 86, 87, 88, 89, 90, 91, 92, 93, 94, 95, 96, 97, 98, 99, 100, 101, 102, 103] ?_
          refine aw_true rfl ?_
          refine aw_region ?_
          refine sr_mv ?_
          refine sr_rd (x_add' rfl rfl (i64w (by omega) (by omega))) ?_
          refine sr_as ?_
          refine sr_nil ?_
          show ∃ s', _ ∧ _ ∧ _ ∧ _
          first | exact ⟨⟨(i + j) / 2 + 1, j⟩, hse.right (mono_dn hsw hA) (by omega) (by assumption), by dsimp only; omega, KeepF.auto, Sub.autoP⟩ | exact ⟨⟨i, (i + j) / 2⟩, hse.left (mono_dn hsw hA) (by omega) (by assumption), by dsimp only; omega, KeepF.auto, Sub.autoP⟩
      · refine sr_nil ?_
        refine aw_kp [0, 2, 4, 14, 15, 83, 84, 85] ?_
        refine aw_false rfl ?_
        refine aw_exit ?_
        show AW _ _ _ _ _ _ _
        refine aw_seq ?_
        refine aw_seq_region ?_
        refine sr_mv ?_
        refine sr_as ?_
        refine sr_nil ?_
        refine aw_kp [0, 2, 4, 14, 17] ?_
        refine aw_block ?_
        refine aw_loop (ι := SortG Ent) (fun s => i ≤ s.k ∧ s.k ≤ m ∧ s.W.length = n ∧ Mv W (rotF s.k m (m + 1)) s.W) (fun s => [(0, .slice (some ⟨b, 0, none⟩) n cap), (14, .int .i64 i), (17, .int .i64 s.k)]) (fun s => (b, .cells ((s.W).flatMap Ent.cells ++ post).toArray 30 (0, 0)) :: G) (fun s => s.k) ⟨m, W⟩ (⟨by dsimp only; omega, Nat.le_refl _, hl, Mv.refl _ (rotF_self m)⟩) KeepF.auto Sub.autoP ?_
        intro s hs9
        obtain ⟨k, cur⟩ := s
        dsimp only at hs9 ⊢
        obtain ⟨hk1, hk2, hcl, hmv⟩ := hs9
        refine aw_seq ?_
        refine aw_seq_region ?_
        refine sr_mv ?_
        refine sr_mv ?_
        refine sr_c (x_gt rfl rfl) (fun h8 => ?_) (fun h8 => ?_)
        · refine sr_nil ?_
          refine aw_kp [0, 14, 17, 108, 109, 110] ?_
          refine aw_true rfl ?_
          refine aw_skip ?_
          show AW _ _ _ _ _ _ _
          refine aw_seq ?_
          refine aw_block ?_
          refine aw_dr ⟨_, 18, 220, [[], [], [], [], [3], [], [], [6], [5, 6, 7], [5, 6, 7, 8], [], [], [10, 11], [10, 11, 12], [0, 1, 5, 6, 7, 8, 9, 10, 11, 12, 13], [0, 1, 5, 6, 7, 8, 9, 10, 11, 12, 13, 14], [0, 1, 2, 3, 4, 5, 6, 7, 8, 9, 10, 11, 12, 13, 14, 15], [0, 1, 2, 3, 4, 5, 6, 7, 8, 9, 10, 11, 12, 13, 14, 15, 16]], [.light, .light, .light, .light, .light, .light, .light, .light, .light, .mem, .light, .light, .light, .mem, .light, .eff, .light, .eff]⟩ (by kernel_rfl) rfl rfl mix ?_
          refine dr_l (x_move rfl) ?_
          refine dr_l (x_move rfl) ?_
          refine dr_l (x_move rfl) ?_
          refine dr_l (x_move rfl) ?_
          refine dr_l (x_cast (u := .int .i64 ((k - 1 : Nat) : Int)) (x_sub' rfl rfl (i64w (by omega) (by omega))) (by congr 1; omega)) ?_
          refine dr_l (x_move rfl) ?_
          refine dr_l (x_move rfl) ?_
          refine dr_l (x_cast (u := .int .i64 ((k - 1 : Nat) : Int)) (x_sub' rfl rfl (i64w (by omega) (by omega))) (by congr 1; omega)) ?_
          refine dr_l (x_indexAddrN (k - 1) Tryd.underlying24 sz30 rfl rfl rfl (by omega) (by omega)) ?_
          refine dr_mem0 rfl rfl (wtd_none rfl) (x_loadN ag30 sz30 rfl ((cells_flat0 (n := 6) (enc := Ent.cells) (fun _ => rfl) (xs := cur) (post := post) (show (b, Obj.cells ((cur).flatMap Ent.cells ++ post).toArray 30 (0, 0)) ∈ _ from mauto) (gd_some (by omega)))) rfl) ?_
          refine dr_l (x_move rfl) ?_
          refine dr_l (x_move rfl) ?_
          refine dr_l (x_indexAddrN (k) Tryd.underlying24 sz30 rfl rfl rfl (by omega) (by omega)) ?_
          refine dr_mem0 rfl rfl (wtd_none rfl) (x_loadN ag30 sz30 rfl ((cells_flat0 (n := 6) (enc := Ent.cells) (fun _ => rfl) (xs := cur) (post := post) (show (b, Obj.cells ((cur).flatMap Ent.cells ++ post).toArray 30 (0, 0)) ∈ _ from mauto) (gd_some (by omega)))) rfl) ?_
          refine dr_l (x_indexAddrN (k) Tryd.underlying24 sz30 rfl rfl rfl (by omega) (by omega)) ?_
          refine dr_store0 rfl rfl (wtd_none rfl) (x_store sz30 rfl rfl rfl rfl rfl Repl.auto (spl_flat0 (n := 6) (enc := Ent.cells) (fun _ => rfl) (xs := cur) (post := post) (i := (k)) (x' := gd cur (k - 1)) (by first | omega | (rw [List.length_set]; omega)))) (by first | rfl | simp [keys_append, keys_cons]) ?_
          refine dr_l (x_indexAddrN (k - 1) Tryd.underlying24 sz30 rfl rfl rfl (by omega) (by omega)) ?_
          refine dr_store0 rfl rfl (wtd_none rfl) (x_store sz30 rfl rfl rfl rfl rfl Repl.auto (spl_flat0 (n := 6) (enc := Ent.cells) (fun _ => rfl) (xs := ((cur).set (k) (gd cur (k - 1)))) (post := post) (i := (k - 1)) (x' := gd cur (k)) (by first | omega | (rw [List.length_set]; omega)))) (by first | rfl | simp [keys_append, keys_cons]) ?_
          refine dr_nil0 ?_
          show AW _ _ _ _ _ _ _
          refine aw_region ?_
          refine sr_mv ?_
          refine sr_rd (x_cast (u := .int .i64 ((k - 1 : Nat) : Int)) (x_sub' rfl rfl (i64w (by omega) (by omega))) (by congr 1; omega)) ?_
          refine sr_as ?_
          refine sr_nil ?_
          show ∃ s', _ ∧ _ ∧ _ ∧ _
          exact ⟨⟨k - 1, sw cur k (k - 1)⟩, ⟨by dsimp only; omega, by dsimp only; omega, sw_len.trans hcl, hmv.sw (by omega) (by omega) (rotF_down (by omega) hk2)⟩, by dsimp only; omega, KeepF.auto, Sub.autoP⟩
        · refine sr_nil ?_
          refine aw_kp [0, 14, 17, 108, 109, 110] ?_
          refine aw_false rfl ?_
          refine aw_exit ?_
          show AW _ _ _ _ _ _ _
          refine aw_ret ?_
          show ∃ v H2, ResV _ _ _ _ _ _ v ∧ Sub H2 _ ∧ _
          first | (obtain rfl : i = j := (by omega); obtain rfl : m = a + 1 := (by omega); obtain rfl : i = k + 1 := (by omega); exact ⟨_, _, resV rfl .nil, Sub.refl _, cur, Mg.one_up hsw (by omega) (by omega) (by omega) hB (fun h q1 q2 => Classical.not_not.1 (hb4 h q1 q2)) hb5 hmv, rfl, rfl⟩) | (obtain rfl : i = j := (by omega); obtain rfl : e = m + 1 := (by omega); obtain rfl : k = i := (by omega); exact ⟨_, _, resV rfl .nil, Sub.refl _, cur, Mg.one_down hsw (by omega) (by omega) (by omega) hA hb4 hb5 hmv, rfl, rfl⟩) | exact ⟨_, _, resV rfl .nil, Sub.refl _, W3, merge_end (by omega) hst1 hin1 hp4 hmg2 hmg3, rfl, rfl⟩ | exact ⟨_, _, resV rfl .nil, Sub.refl _, W2, merge_end (by omega) hst1 hin1 hp4 hmg2 (Mg.triv (s := d + m - i) (by omega) (hp4.2.2.1.same fun k q1 q2 => hmg2.2.1.2.1 k (by omega)) (hp4.2.2.2.1.same fun k q1 q2 => hmg2.2.1.2.1 k (by omega))), rfl, rfl⟩
    · refine sr_nil ?_
      refine aw_kp [0, 1, 2, 3, 4, 80] ?_
      refine aw_false rfl ?_
      refine aw_skip ?_
      show AW _ _ _ _ _ _ _
      refine aw_seq_region ?_
      refine sr_mv ?_
      refine sr_mv ?_
      refine sr_rd (x_add' rfl rfl (i64w (by omega) (by omega))) ?_
      refine sr_rd (x_conv' Tryd.underlying3 Tryd.underlying124 rfl (u64w (by omega) (by omega))) ?_
      refine sr_rd (x_cast (x_shr rfl rfl (by omega)) (shrH (a) (e))) ?_
      refine sr_rd (x_conv' Tryd.underlying124 Tryd.underlying3 rfl (i64w (by omega) (by omega))) ?_
      refine sr_as ?_
      refine sr_nil ?_
      refine aw_kp [0, 1, 2, 3, 4, 18] ?_
      refine aw_seq_region ?_
      obtain ⟨d, hd⟩ : ∃ d, d = (a + e) / 2 := ⟨_, rfl⟩
      rw [← hd]
      refine sr_mv ?_
      refine sr_mv ?_
      refine sr_rd (x_cast (u := .int .i64 ((d + m : Nat) : Int)) (x_add' rfl rfl (i64w (by omega) (by omega))) (by congr 1)) ?_
      refine sr_as ?_
      refine sr_nil ?_
      refine aw_kp [0, 1, 2, 3, 4, 18, 19] ?_
      refine aw_seq_region ?_
      refine sr_as ?_
      refine sr_as ?_
      refine sr_nil ?_
      refine aw_kp [0, 1, 2, 3, 4, 18, 19, 20, 21] ?_
      refine aw_seq ?_
      refine aw_seq_region ?_
      refine sr_mv ?_
      refine sr_mv ?_
      refine sr_c (x_gt rfl rfl) (fun h9 => ?_) (fun h9 => ?_)
      · refine sr_nil ?_
        refine aw_kp [0, 1, 2, 3, 4, 18, 19, 20, 21, 140] ?_
        refine aw_true rfl ?_
        refine aw_seq_region ?_
        refine sr_mv ?_
        refine sr_mv ?_
        refine sr_rd (x_cast (u := .int .i64 ((d + m - e : Nat) : Int)) (x_sub' rfl rfl (i64w (by omega) (by omega))) (by congr 1; omega)) ?_
        refine sr_as ?_
        refine sr_nil ?_
        refine aw_kp [0, 1, 2, 3, 4, 18, 19, 20, 21] ?_
        refine aw_region ?_
        refine sr_mv ?_
        refine sr_as ?_
        refine sr_nil ?_
        show AW _ _ _ _ _ _ _
        refine aw_seq_region ?_
        refine sr_mv ?_
        refine sr_rd (x_cast (u := .int .i64 ((d + m - 1 : Nat) : Int)) (x_sub' rfl rfl (i64w (by omega) (by omega))) (by congr 1; omega)) ?_
        refine sr_as ?_
        refine sr_nil ?_
        refine aw_kp [0, 1, 2, 3, 4, 18, 19, 20, 21, 22] ?_
        refine aw_seq ?_
        refine aw_block ?_
        refine aw_loop (ι := SeaG) (fun s => Sea (fun h => c (gd W (d + m - 1 - h)) (gd W h) < 0) (d + m - e) d s.i s.j) (fun s => [(0, .slice (some ⟨b, 0, none⟩) n cap), (1, .int .i64 a), (2, .int .i64 m), (3, .int .i64 e), (4, .func (.func 66) #[] #[]), (18, .int .i64 d), (19, .int .i64 ((d + m : Nat) : Int)), (20, .int .i64 s.i), (21, .int .i64 s.j), (22, .int .i64 ((d + m - 1 : Nat) : Int))]) (fun _ => (b, .cells ((W).flatMap Ent.cells ++ post).toArray 30 (0, 0)) :: G) (fun s => s.j - s.i) ⟨(d + m - e), d⟩ (Sea.start (by omega)) KeepF.auto Sub.autoP ?_
        intro s hs9
        obtain ⟨i, j⟩ := s
        dsimp only at hs9 ⊢
        have hse := hs9
        obtain ⟨hb1, hb2, hb3, hb4, hb5⟩ := hs9
        refine aw_seq ?_
        refine aw_seq_region ?_
        refine sr_mv ?_
        refine sr_mv ?_
        refine sr_c (x_lt rfl rfl) (fun h10 => ?_) (fun h10 => ?_)
        · refine sr_nil ?_
          refine aw_kp [0, 1, 2, 3, 4, 18, 19, 20, 21, 22, 149, 150, 151] ?_
          refine aw_true rfl ?_
          refine aw_skip ?_
          show AW _ _ _ _ _ _ _
          refine aw_block ?_
          refine aw_seq_region ?_
          refine sr_mv ?_
          refine sr_mv ?_
          refine sr_rd (x_add' rfl rfl (i64w (by omega) (by omega))) ?_
          refine sr_rd (x_conv' Tryd.underlying3 Tryd.underlying124 rfl (u64w (by omega) (by omega))) ?_
          refine sr_rd (x_cast (x_shr rfl rfl (by omega)) (shrH (i) (j))) ?_
          refine sr_rd (x_conv' Tryd.underlying124 Tryd.underlying3 rfl (i64w (by omega) (by omega))) ?_
          refine sr_as ?_
          refine sr_nil ?_
          refine aw_kp [0, 1, 2, 3, 4, 18, 19, 20, 21, 22, 23, 149, 150, 151, 152, 153, 154, 155, 156, 157] ?_
          refine aw_seq_dr ⟨_, 14, 220, [[], [], [], [], [2, 3], [1, 2, 3, 4], [1, 2, 3, 4, 5], [], [], [7, 8], [7, 8, 9], [0, 1, 2, 3, 4, 5, 6, 7, 8, 9, 10], [0, 1, 2, 3, 4, 5, 6, 7, 8, 9, 10, 11], [0, 1, 2, 3, 4, 5, 6, 7, 8, 9, 10, 11, 12]], [.light, .light, .light, .light, .light, .light, .mem, .light, .light, .light, .mem, .call, .light, .light]⟩ (by kernel_rfl) rfl rfl mix ?_
          refine dr_l (x_move rfl) ?_
          refine dr_l (x_move rfl) ?_
          refine dr_l (x_move rfl) ?_
          refine dr_l (x_move rfl) ?_
          refine dr_l (x_cast (u := .int .i64 ((d + m - 1 - (i + j) / 2 : Nat) : Int)) (x_sub' rfl rfl (i64w (by omega) (by omega))) (by congr 1; omega)) ?_
          refine dr_l (x_indexAddrN (d + m - 1 - (i + j) / 2) Tryd.underlying24 sz30 rfl rfl rfl (by omega) (by omega)) ?_
          refine dr_mem0 rfl rfl (wtd_none rfl) (x_loadN ag30 sz30 rfl ((cells_flat0 (n := 6) (enc := Ent.cells) (fun _ => rfl) (xs := W) (post := post) (show (b, Obj.cells ((W).flatMap Ent.cells ++ post).toArray 30 (0, 0)) ∈ _ from mauto) (gd_some (by omega)))) rfl) ?_
          refine dr_l (x_move rfl) ?_
          refine dr_l (x_move rfl) ?_
          refine dr_l (x_indexAddrN ((i + j) / 2) Tryd.underlying24 sz30 rfl rfl rfl (by omega) (by omega)) ?_
          refine dr_mem0 rfl rfl (wtd_none rfl) (x_loadN ag30 sz30 rfl ((cells_flat0 (n := 6) (enc := Ent.cells) (fun _ => rfl) (xs := W) (post := post) (show (b, Obj.cells ((W).flatMap Ent.cells ++ post).toArray 30 (0, 0)) ∈ _ from mauto) (gd_some (by omega)))) rfl) ?_
          refine dr_callq0 rfl rfl (wtd_none rfl) (opS_F rfl rfl rfl rfl cl66 ((hcmp (gd W (d + m - 1 - (i + j) / 2)) (gd W ((i + j) / 2)) _ Sub.autoR))) (⟨_, rfl⟩) ?_
          rintro _ rfl
          refine dr_cmp rfl rfl (wtd_none rfl) (x_lt rfl rfl) (fun h11 => ?_) (fun h11 => ?_)
          · refine dr_l (x_not rfl) ?_
            refine dr_nil0 ?_
            refine aw_kp [0, 1, 2, 3, 4, 18, 19, 20, 21, 22, 23, 149, 150, 151, 152, 153, 154, 155, 156, 157, 158, 159, 160, 161, 162, 163, 164, 165, 166, 167, 168, 169, 170, 171] ?_
            refine aw_false rfl ?_
            refine aw_region ?_
            refine sr_mv ?_
            refine sr_as ?_
            refine sr_nil ?_
            show ∃ s', _ ∧ _ ∧ _ ∧ _
            first | exact ⟨⟨(i + j) / 2 + 1, j⟩, hse.right (mono_mid hsw hA hB (by omega) (by omega) (fun h q1 q2 => by omega) : ∀ x y, (d + m - e) ≤ x → x ≤ y → y < d → (fun h => c (gd W (d + m - 1 - h)) (gd W h) < 0) x → (fun h => c (gd W (d + m - 1 - h)) (gd W h) < 0) y) (by omega) (by assumption), by dsimp only; omega, KeepF.auto, Sub.autoP⟩ | exact ⟨⟨i, (i + j) / 2⟩, hse.left (mono_mid hsw hA hB (by omega) (by omega) (fun h q1 q2 => by omega) : ∀ x y, (d + m - e) ≤ x → x ≤ y → y < d → (fun h => c (gd W (d + m - 1 - h)) (gd W h) < 0) x → (fun h => c (gd W (d + m - 1 - h)) (gd W h) < 0) y) (by omega) (by assumption), by dsimp only; omega, KeepF.auto, Sub.autoP⟩
          · refine dr_l (x_not rfl) ?_
            refine dr_nil0 ?_
            refine aw_kp [0, 1, 2, 3, 4, 18, 19, 20, 21, 22, 23, 149, 150, 151, 152, 153, 154, 155, 156, 157, 158, 159, 160, 161, 162, 163, 164, 165, 166, 167, 168, 169, 170, 171] ?_
            refine aw_true rfl ?_
            refine aw_region ?_
            refine sr_mv ?_
            refine sr_rd (x_add' rfl rfl (i64w (by omega) (by omega))) ?_
            refine sr_as ?_
            refine sr_nil ?_
            show ∃ s', _ ∧ _ ∧ _ ∧ _
            first | exact ⟨⟨(i + j) / 2 + 1, j⟩, hse.right (mono_mid hsw hA hB (by omega) (by omega) (fun h q1 q2 => by omega) : ∀ x y, (d + m - e) ≤ x → x ≤ y → y < d → (fun h => c (gd W (d + m - 1 - h)) (gd W h) < 0) x → (fun h => c (gd W (d + m - 1 - h)) (gd W h) < 0) y) (by omega) (by assumption), by dsimp only; omega, KeepF.auto, Sub.autoP⟩ | exact ⟨⟨i, (i + j) / 2⟩, hse.left (mono_mid hsw hA hB (by omega) (by omega) (fun h q1 q2 => by omega) : ∀ x y, (d + m - e) ≤ x → x ≤ y → y < d → (fun h => c (gd W (d + m - 1 - h)) (gd W h) < 0) x → (fun h => c (gd W (d + m - 1 - h)) (gd W h) < 0) y) (by omega) (by assumption), by dsimp only; omega, KeepF.auto, Sub.autoP⟩
        · refine sr_nil ?_
          refine aw_kp [0, 1, 2, 3, 4, 18, 19, 20, 21, 22, 149, 150, 151] ?_
          refine aw_false rfl ?_
          refine aw_exit ?_
          show AW _ _ _ _ _ _ _
          refine aw_seq_region ?_
          refine sr_mv ?_
          refine sr_mv ?_
          refine sr_rd (x_cast (u := .int .i64 ((d + m - i : Nat) : Int)) (x_sub' rfl rfl (i64w (by omega) (by omega))) (by congr 1; omega)) ?_
          refine sr_as ?_
          refine sr_nil ?_
          refine aw_kp [0, 1, 2, 3, 4, 18, 20, 24] ?_
          refine aw_join (ι := List Ent) (fun W1 => W1.length = n ∧ Mv W (rotF i m (d + m - i)) W1) (fun W1 => [(0, .slice (some ⟨b, 0, none⟩) n cap), (1, .int .i64 a), (3, .int .i64 e), (4, .func (.func 66) #[] #[]), (18, .int .i64 d), (20, .int .i64 i), (24, .int .i64 ((d + m - i : Nat) : Int))]) (fun W1 => (b, .cells ((W1).flatMap Ent.cells ++ post).toArray 30 (0, 0)) :: G) ?_ ?_
          · refine aw_seq_region ?_
            refine sr_mv ?_
            refine sr_mv ?_
            refine sr_c (x_lt rfl rfl) (fun h12 => ?_) (fun h12 => ?_)
            · refine sr_mv ?_
              refine sr_ry (x_move rfl) ?_
              refine sr_ry (x_move rfl) ?_
              refine sr_cy (x_lt rfl rfl) (fun h13 => ?_) (fun h13 => ?_)
              · refine sr_rd (x_pick_t rfl rfl rfl) ?_
                refine sr_nil ?_
                refine aw_kp [0, 1, 2, 3, 4, 18, 20, 24, 185] ?_
                refine aw_true rfl ?_
                refine aw_region ?_
                refine sr_mv ?_
                refine sr_mv ?_
                refine sr_mv ?_
                refine sr_mv ?_
                refine sr_mv ?_
                refine sr_d rfl (wtd_none rfl) rfl (opS_call rfl rfl rfl rfl cl113 (AC.sub Sub.autoP (esRot_s b cap n W post G hl hn hcap hcb i m (d + m - i) (by omega) (by omega) (by omega)))) ?_
                rintro _ _ ⟨W9, hm9, rfl, rfl⟩
                refine sr_nil ?_
                show ∃ s', _ ∧ _ ∧ _
                first | exact ⟨W9, ⟨hm9.1.trans hl, hm9⟩, KeepF.auto, Sub.autoP⟩ | exact ⟨W, ⟨hl, Mv.refl W (rotF_triv (by omega) (by omega) (by omega))⟩, KeepF.auto, Sub.autoP⟩
              · refine sr_rd (x_pick_t rfl rfl rfl) ?_
                refine sr_nil ?_
                refine aw_kp [0, 1, 2, 3, 4, 18, 20, 24, 185] ?_
                refine aw_false rfl ?_
                refine aw_skip ?_
                show ∃ s', _ ∧ _ ∧ _
                first | exact ⟨W9, ⟨hm9.1.trans hl, hm9⟩, KeepF.auto, Sub.autoP⟩ | exact ⟨W, ⟨hl, Mv.refl W (rotF_triv (by omega) (by omega) (by omega))⟩, KeepF.auto, Sub.autoP⟩
            · refine sr_mv ?_
              refine sr_sk ?_
              refine sr_sk ?_
              refine sr_sk ?_
              refine sr_rd (x_pick_f rfl rfl rfl) ?_
              refine sr_nil ?_
              refine aw_kp [0, 1, 2, 3, 4, 18, 20, 24, 185] ?_
              refine aw_false rfl ?_
              refine aw_skip ?_
              show ∃ s', _ ∧ _ ∧ _
              first | exact ⟨W9, ⟨hm9.1.trans hl, hm9⟩, KeepF.auto, Sub.autoP⟩ | exact ⟨W, ⟨hl, Mv.refl W (rotF_triv (by omega) (by omega) (by omega))⟩, KeepF.auto, Sub.autoP⟩
          · intro W1 hW1
            obtain ⟨hl1, hm1⟩ := hW1
            obtain ⟨hst1, hin1, hp4⟩ := merge_cut (d := d) (s := i) (e := d + m - i) hsw (by omega) (by omega) (by omega) (by omega) (by omega) (by omega) (by omega) hA hB (fun q1 q2 => by have h7 : c (gd W (d + m - 1 - i)) (gd W i) < 0 := hb5 i (by omega) (by omega); rw [show d + m - i - 1 = d + m - 1 - i by omega]; exact h7) (fun q1 q2 => by have h7 : ¬ c (gd W (d + m - 1 - (i - 1))) (gd W (i - 1)) < 0 := hb4 (i - 1) (by omega) (by omega); rw [show d + m - 1 - (i - 1) = d + m - i by omega] at h7; exact h7) hm1
            refine aw_join (ι := List Ent) (fun W2 => W2.length = n ∧ Mg c W1 a d W2) (fun W2 => [(0, .slice (some ⟨b, 0, none⟩) n cap), (3, .int .i64 e), (4, .func (.func 66) #[] #[]), (18, .int .i64 d), (24, .int .i64 ((d + m - i : Nat) : Int))]) (fun W2 => (b, .cells ((W2).flatMap Ent.cells ++ post).toArray 30 (0, 0)) :: G) ?_ ?_
            · refine aw_seq_region ?_
              refine sr_mv ?_
              refine sr_mv ?_
              refine sr_c (x_lt rfl rfl) (fun h14 => ?_) (fun h14 => ?_)
              · refine sr_mv ?_
                refine sr_ry (x_move rfl) ?_
                refine sr_ry (x_move rfl) ?_
                refine sr_cy (x_lt rfl rfl) (fun h15 => ?_) (fun h15 => ?_)
                · refine sr_rd (x_pick_t rfl rfl rfl) ?_
                  refine sr_nil ?_
                  refine aw_kp [0, 1, 3, 4, 18, 20, 24, 199] ?_
                  refine aw_true rfl ?_
                  refine aw_region ?_
                  refine sr_mv ?_
                  refine sr_mv ?_
                  refine sr_mv ?_
                  refine sr_mv ?_
                  refine sr_mv ?_
                  refine sr_d rfl (wtd_none rfl) rfl (opS_call rfl rfl rfl rfl cl93 (AC.sub Sub.autoP (ih W1 a i d (by omega) (by omega) (by omega) (by omega) (by omega) (hp4.1) (hp4.2.1)))) ?_
                  rintro _ _ ⟨W8, hmg8, rfl, rfl⟩
                  refine sr_nil ?_
                  show ∃ s', _ ∧ _ ∧ _
                  first | exact ⟨W8, ⟨hmg8.2.1.1.trans hl1, hmg8⟩, KeepF.auto, Sub.autoP⟩ | exact ⟨W1, ⟨hl1, Mg.triv (by omega) hp4.1 hp4.2.1⟩, KeepF.auto, Sub.autoP⟩
                · refine sr_rd (x_pick_t rfl rfl rfl) ?_
                  refine sr_nil ?_
                  refine aw_kp [0, 1, 3, 4, 18, 20, 24, 199] ?_
                  refine aw_false rfl ?_
                  refine aw_skip ?_
                  show ∃ s', _ ∧ _ ∧ _
                  first | exact ⟨W8, ⟨hmg8.2.1.1.trans hl1, hmg8⟩, KeepF.auto, Sub.autoP⟩ | exact ⟨W1, ⟨hl1, Mg.triv (by omega) hp4.1 hp4.2.1⟩, KeepF.auto, Sub.autoP⟩
              · refine sr_mv ?_
                refine sr_sk ?_
                refine sr_sk ?_
                refine sr_sk ?_
                refine sr_rd (x_pick_f rfl rfl rfl) ?_
                refine sr_nil ?_
                refine aw_kp [0, 1, 3, 4, 18, 20, 24, 199] ?_
                refine aw_false rfl ?_
                refine aw_skip ?_
                show ∃ s', _ ∧ _ ∧ _
                first | exact ⟨W8, ⟨hmg8.2.1.1.trans hl1, hmg8⟩, KeepF.auto, Sub.autoP⟩ | exact ⟨W1, ⟨hl1, Mg.triv (by omega) hp4.1 hp4.2.1⟩, KeepF.auto, Sub.autoP⟩
            · intro W2 hW2
              obtain ⟨hl2, hmg2⟩ := hW2
              refine aw_seq_region ?_
              refine sr_mv ?_
              refine sr_mv ?_
              refine sr_c (x_lt rfl rfl) (fun h16 => ?_) (fun h16 => ?_)
              · refine sr_mv ?_
                refine sr_ry (x_move rfl) ?_
                refine sr_ry (x_move rfl) ?_
                refine sr_cy (x_lt rfl rfl) (fun h17 => ?_) (fun h17 => ?_)
                · refine sr_rd (x_pick_t rfl rfl rfl) ?_
                  refine sr_nil ?_
                  refine aw_kp [0, 3, 4, 18, 24, 213] ?_
                  refine aw_true rfl ?_
                  refine aw_region ?_
                  refine sr_mv ?_
                  refine sr_mv ?_
                  refine sr_mv ?_
                  refine sr_mv ?_
                  refine sr_mv ?_
                  refine sr_d rfl (wtd_none rfl) rfl (opS_call rfl rfl rfl rfl cl93 (AC.sub Sub.autoP (ih W2 d (d + m - i) e (by omega) (by omega) (by omega) (by omega) (by omega) ((hp4.2.2.1.same fun k q1 q2 => hmg2.2.1.2.1 k (by omega))) ((hp4.2.2.2.1.same fun k q1 q2 => hmg2.2.1.2.1 k (by omega)))))) ?_
                  rintro _ _ ⟨W3, hmg3, rfl, rfl⟩
                  refine sr_nil ?_
                  show ∃ v H2, ResV _ _ _ _ _ _ v ∧ Sub H2 _ ∧ _
                  first | (obtain rfl : i = j := (by omega); obtain rfl : m = a + 1 := (by omega); obtain rfl : i = k + 1 := (by omega); exact ⟨_, _, resV rfl .nil, Sub.refl _, cur, Mg.one_up hsw (by omega) (by omega) (by omega) hB (fun h q1 q2 => Classical.not_not.1 (hb4 h q1 q2)) hb5 hmv, rfl, rfl⟩) | (obtain rfl : i = j := (by omega); obtain rfl : e = m + 1 := (by omega); obtain rfl : k = i := (by omega); exact ⟨_, _, resV rfl .nil, Sub.refl _, cur, Mg.one_down hsw (by omega) (by omega) (by omega) hA hb4 hb5 hmv, rfl, rfl⟩) | exact ⟨_, _, resV rfl .nil, Sub.refl _, W3, merge_end (by omega) hst1 hin1 hp4 hmg2 hmg3, rfl, rfl⟩ | exact ⟨_, _, resV rfl .nil, Sub.refl _, W2, merge_end (by omega) hst1 hin1 hp4 hmg2 (Mg.triv (s := d + m - i) (by omega) (hp4.2.2.1.same fun k q1 q2 => hmg2.2.1.2.1 k (by omega)) (hp4.2.2.2.1.same fun k q1 q2 => hmg2.2.1.2.1 k (by omega))), rfl, rfl⟩
                · refine sr_rd (x_pick_t rfl rfl rfl) ?_
                  refine sr_nil ?_
                  refine aw_kp [0, 3, 4, 18, 24, 213] ?_
                  refine aw_false rfl ?_
                  refine aw_skip ?_
                  show ∃ v H2, ResV _ _ _ _ _ _ v ∧ Sub H2 _ ∧ _
                  first | (obtain rfl : i = j := (by omega); obtain rfl : m = a + 1 := (by omega); obtain rfl : i = k + 1 := (by omega); exact ⟨_, _, resV rfl .nil, Sub.refl _, cur, Mg.one_up hsw (by omega) (by omega) (by omega) hB (fun h q1 q2 => Classical.not_not.1 (hb4 h q1 q2)) hb5 hmv, rfl, rfl⟩) | (obtain rfl : i = j := (by omega); obtain rfl : e = m + 1 := (by omega); obtain rfl : k = i := (by omega); exact ⟨_, _, resV rfl .nil, Sub.refl _, cur, Mg.one_down hsw (by omega) (by omega) (by omega) hA hb4 hb5 hmv, rfl, rfl⟩) | exact ⟨_, _, resV rfl .nil, Sub.refl _, W3, merge_end (by omega) hst1 hin1 hp4 hmg2 hmg3, rfl, rfl⟩ | exact ⟨_, _, resV rfl .nil, Sub.refl _, W2, merge_end (by omega) hst1 hin1 hp4 hmg2 (Mg.triv (s := d + m - i) (by omega) (hp4.2.2.1.same fun k q1 q2 => hmg2.2.1.2.1 k (by omega)) (hp4.2.2.2.1.same fun k q1 q2 => hmg2.2.1.2.1 k (by omega))), rfl, rfl⟩
              · refine sr_mv ?_
                refine sr_sk ?_
                refine sr_sk ?_
                refine sr_sk ?_
                refine sr_rd (x_pick_f rfl rfl rfl) ?_
                refine sr_nil ?_
                refine aw_kp [0, 3, 4, 18, 24, 213] ?_
                refine aw_false rfl ?_
                refine aw_skip ?_
                show ∃ v H2, ResV _ _ _ _ _ _ v ∧ Sub H2 _ ∧ _
                first | (obtain rfl : i = j := (by omega); obtain rfl : m = a + 1 := (by omega); obtain rfl : i = k + 1 := (by omega); exact ⟨_, _, resV rfl .nil, Sub.refl _, cur, Mg.one_up hsw (by omega) (by omega) (by omega) hB (fun h q1 q2 => Classical.not_not.1 (hb4 h q1 q2)) hb5 hmv, rfl, rfl⟩) | (obtain rfl : i = j := (by omega); obtain rfl : e = m + 1 := (by omega); obtain rfl : k = i := (by omega); exact ⟨_, _, resV rfl .nil, Sub.refl _, cur, Mg.one_down hsw (by omega) (by omega) (by omega) hA hb4 hb5 hmv, rfl, rfl⟩) | exact ⟨_, _, resV rfl .nil, Sub.refl _, W3, merge_end (by omega) hst1 hin1 hp4 hmg2 hmg3, rfl, rfl⟩ | exact ⟨_, _, resV rfl .nil, Sub.refl _, W2, merge_end (by omega) hst1 hin1 hp4 hmg2 (Mg.triv (s := d + m - i) (by omega) (hp4.2.2.1.same fun k q1 q2 => hmg2.2.1.2.1 k (by omega)) (hp4.2.2.2.1.same fun k q1 q2 => hmg2.2.1.2.1 k (by omega))), rfl, rfl⟩
      · refine sr_nil ?_
        refine aw_kp [0, 1, 2, 3, 4, 18, 19, 20, 21, 140] ?_
        refine aw_false rfl ?_
        refine aw_seq_region ?_
        refine sr_mv ?_
        refine sr_as ?_
        refine sr_nil ?_
        refine aw_kp [0, 1, 2, 3, 4, 18, 19, 20, 21] ?_
        refine aw_region ?_
        refine sr_mv ?_
        refine sr_as ?_
        refine sr_nil ?_
        show AW _ _ _ _ _ _ _
        refine aw_seq_region ?_
        refine sr_mv ?_
        refine sr_rd (x_cast (u := .int .i64 ((d + m - 1 : Nat) : Int)) (x_sub' rfl rfl (i64w (by omega) (by omega))) (by congr 1; omega)) ?_
        refine sr_as ?_
        refine sr_nil ?_
        refine aw_kp [0, 1, 2, 3, 4, 18, 19, 20, 21, 22] ?_
        refine aw_seq ?_
        refine aw_block ?_
        refine aw_loop (ι := SeaG) (fun s => Sea (fun h => c (gd W (d + m - 1 - h)) (gd W h) < 0) a m s.i s.j) (fun s => [(0, .slice (some ⟨b, 0, none⟩) n cap), (1, .int .i64 a), (2, .int .i64 m), (3, .int .i64 e), (4, .func (.func 66) #[] #[]), (18, .int .i64 d), (19, .int .i64 ((d + m : Nat) : Int)), (20, .int .i64 s.i), (21, .int .i64 s.j), (22, .int .i64 ((d + m - 1 : Nat) : Int))]) (fun _ => (b, .cells ((W).flatMap Ent.cells ++ post).toArray 30 (0, 0)) :: G) (fun s => s.j - s.i) ⟨a, m⟩ (Sea.start (by omega)) KeepF.auto Sub.autoP ?_
        intro s hs9
        obtain ⟨i, j⟩ := s
        dsimp only at hs9 ⊢
        have hse := hs9
        obtain ⟨hb1, hb2, hb3, hb4, hb5⟩ := hs9
        refine aw_seq ?_
        refine aw_seq_region ?_
        refine sr_mv ?_
        refine sr_mv ?_
        refine sr_c (x_lt rfl rfl) (fun h18 => ?_) (fun h18 => ?_)
        · refine sr_nil ?_
          refine aw_kp [0, 1, 2, 3, 4, 18, 19, 20, 21, 22, 149, 150, 151] ?_
          refine aw_true rfl ?_
          refine aw_skip ?_
          show AW _ _ _ _ _ _ _
          refine aw_block ?_
          refine aw_seq_region ?_
          refine sr_mv ?_
          refine sr_mv ?_
          refine sr_rd (x_add' rfl rfl (i64w (by omega) (by omega))) ?_
          refine sr_rd (x_conv' Tryd.underlying3 Tryd.underlying124 rfl (u64w (by omega) (by omega))) ?_
          refine sr_rd (x_cast (x_shr rfl rfl (by omega)) (shrH (i) (j))) ?_
          refine sr_rd (x_conv' Tryd.underlying124 Tryd.underlying3 rfl (i64w (by omega) (by omega))) ?_
          refine sr_as ?_
          refine sr_nil ?_
          refine aw_kp [0, 1, 2, 3, 4, 18, 19, 20, 21, 22, 23, 149, 150, 151, 152, 153, 154, 155, 156, 157] ?_
          refine aw_seq_dr ⟨_, 14, 220, [[], [], [], [], [2, 3], [1, 2, 3, 4], [1, 2, 3, 4, 5], [], [], [7, 8], [7, 8, 9], [0, 1, 2, 3, 4, 5, 6, 7, 8, 9, 10], [0, 1, 2, 3, 4, 5, 6, 7, 8, 9, 10, 11], [0, 1, 2, 3, 4, 5, 6, 7, 8, 9, 10, 11, 12]], [.light, .light, .light, .light, .light, .light, .mem, .light, .light, .light, .mem, .call, .light, .light]⟩ (by kernel_rfl) rfl rfl mix ?_
          refine dr_l (x_move rfl) ?_
          refine dr_l (x_move rfl) ?_
          refine dr_l (x_move rfl) ?_
          refine dr_l (x_move rfl) ?_
          refine dr_l (x_cast (u := .int .i64 ((d + m - 1 - (i + j) / 2 : Nat) : Int)) (x_sub' rfl rfl (i64w (by omega) (by omega))) (by congr 1; omega)) ?_
          refine dr_l (x_indexAddrN (d + m - 1 - (i + j) / 2) Tryd.underlying24 sz30 rfl rfl rfl (by omega) (by omega)) ?_
          refine dr_mem0 rfl rfl (wtd_none rfl) (x_loadN ag30 sz30 rfl ((cells_flat0 (n := 6) (enc := Ent.cells) (fun _ => rfl) (xs := W) (post := post) (show (b, Obj.cells ((W).flatMap Ent.cells ++ post).toArray 30 (0, 0)) ∈ _ from mauto) (gd_some (by omega)))) rfl) ?_
          refine dr_l (x_move rfl) ?_
          refine dr_l (x_move rfl) ?_
          refine dr_l (x_indexAddrN ((i + j) / 2) Tryd.underlying24 sz30 rfl rfl rfl (by omega) (by omega)) ?_
          refine dr_mem0 rfl rfl (wtd_none rfl) (x_loadN ag30 sz30 rfl ((cells_flat0 (n := 6) (enc := Ent.cells) (fun _ => rfl) (xs := W) (post := post) (show (b, Obj.cells ((W).flatMap Ent.cells ++ post).toArray 30 (0, 0)) ∈ _ from mauto) (gd_some (by omega)))) rfl) ?_
          refine dr_callq0 rfl rfl (wtd_none rfl) (opS_F rfl rfl rfl rfl cl66 ((hcmp (gd W (d + m - 1 - (i + j) / 2)) (gd W ((i + j) / 2)) _ Sub.autoR))) (⟨_, rfl⟩) ?_
          rintro _ rfl
          refine dr_cmp rfl rfl (wtd_none rfl) (x_lt rfl rfl) (fun h19 => ?_) (fun h19 => ?_)
          · refine dr_l (x_not rfl) ?_
            refine dr_nil0 ?_
            refine aw_kp [0, 1, 2, 3, 4, 18, 19, 20, 21, 22, 23, 149, 150, 151, 152, 153, 154, 155, 156, 157, 158, 159, 160, 161, 162, 163, 164, 165, 166, 167, 168, 169, 170, 171] ?_
            refine aw_false rfl ?_
            refine aw_region ?_
            refine sr_mv ?_
            refine sr_as ?_
            refine sr_nil ?_
            show ∃ s', _ ∧ _ ∧ _ ∧ _
            first | exact ⟨⟨(i + j) / 2 + 1, j⟩, hse.right (mono_mid hsw hA hB (by omega) (by omega) (fun h q1 q2 => by omega) : ∀ x y, a ≤ x → x ≤ y → y < m → (fun h => c (gd W (d + m - 1 - h)) (gd W h) < 0) x → (fun h => c (gd W (d + m - 1 - h)) (gd W h) < 0) y) (by omega) (by assumption), by dsimp only; omega, KeepF.auto, Sub.autoP⟩ | exact ⟨⟨i, (i + j) / 2⟩, hse.left (mono_mid hsw hA hB (by omega) (by omega) (fun h q1 q2 => by omega) : ∀ x y, a ≤ x → x ≤ y → y < m → (fun h => c (gd W (d + m - 1 - h)) (gd W h) < 0) x → (fun h => c (gd W (d + m - 1 - h)) (gd W h) < 0) y) (by omega) (by assumption), by dsimp only; omega, KeepF.auto, Sub.autoP⟩
          · refine dr_l (x_not rfl) ?_
            refine dr_nil0 ?_
            refine aw_kp [0, 1, 2, 3, 4, 18, 19, 20, 21, 22, 23, 149, 150, 151, 152, 153, 154, 155, 156, 157, 158, 159, 160, 161, 162, 163, 164, 165, 166, 167, 168, 169, 170, 171] ?_
            refine aw_true rfl ?_
            refine aw_region ?_
            refine sr_mv ?_
            refine sr_rd (x_add' rfl rfl (i64w (by omega) (by omega))) ?_
            refine sr_as ?_
            refine sr_nil ?_
            show ∃ s', _ ∧ _ ∧ _ ∧ _
            first | exact ⟨⟨(i + j) / 2 + 1, j⟩, hse.right (mono_mid hsw hA hB (by omega) (by omega) (fun h q1 q2 => by omega) : ∀ x y, a ≤ x → x ≤ y → y < m → (fun h => c (gd W (d + m - 1 - h)) (gd W h) < 0) x → (fun h => c (gd W (d + m - 1 - h)) (gd W h) < 0) y) (by omega) (by assumption), by dsimp only; omega, KeepF.auto, Sub.autoP⟩ | exact ⟨⟨i, (i + j) / 2⟩, hse.left (mono_mid hsw hA hB (by omega) (by omega) (fun h q1 q2 => by omega) : ∀ x y, a ≤ x → x ≤ y → y < m → (fun h => c (gd W (d + m - 1 - h)) (gd W h) < 0) x → (fun h => c (gd W (d + m - 1 - h)) (gd W h) < 0) y) (by omega) (by assumption), by dsimp only; omega, KeepF.auto, Sub.autoP⟩
        · refine sr_nil ?_
          refine aw_kp [0, 1, 2, 3, 4, 18, 19, 20, 21, 22, 149, 150, 151] ?_
          refine aw_false rfl ?_
          refine aw_exit ?_
          show AW _ _ _ _ _ _ _
          refine aw_seq_region ?_
          refine sr_mv ?_
          refine sr_mv ?_
          refine sr_rd (x_cast (u := .int .i64 ((d + m - i : Nat) : Int)) (x_sub' rfl rfl (i64w (by omega) (by omega))) (by congr 1; omega)) ?_
          refine sr_as ?_
          refine sr_nil ?_
          refine aw_kp [0, 1, 2, 3, 4, 18, 20, 24] ?_
          refine aw_join (ι := List Ent) (fun W1 => W1.length = n ∧ Mv W (rotF i m (d + m - i)) W1) (fun W1 => [(0, .slice (some ⟨b, 0, none⟩) n cap), (1, .int .i64 a), (3, .int .i64 e), (4, .func (.func 66) #[] #[]), (18, .int .i64 d), (20, .int .i64 i), (24, .int .i64 ((d + m - i : Nat) : Int))]) (fun W1 => (b, .cells ((W1).flatMap Ent.cells ++ post).toArray 30 (0, 0)) :: G) ?_ ?_
          · refine aw_seq_region ?_
            refine sr_mv ?_
            refine sr_mv ?_
            refine sr_c (x_lt rfl rfl) (fun h20 => ?_) (fun h20 => ?_)
            · refine sr_mv ?_
              refine sr_ry (x_move rfl) ?_
              refine sr_ry (x_move rfl) ?_
              refine sr_cy (x_lt rfl rfl) (fun h21 => ?_) (fun h21 => ?_)
              · refine sr_rd (x_pick_t rfl rfl rfl) ?_
                refine sr_nil ?_
                refine aw_kp [0, 1, 2, 3, 4, 18, 20, 24, 185] ?_
                refine aw_true rfl ?_
                refine aw_region ?_
                refine sr_mv ?_
                refine sr_mv ?_
                refine sr_mv ?_
                refine sr_mv ?_
                refine sr_mv ?_
                refine sr_d rfl (wtd_none rfl) rfl (opS_call rfl rfl rfl rfl cl113 (AC.sub Sub.autoP (esRot_s b cap n W post G hl hn hcap hcb i m (d + m - i) (by omega) (by omega) (by omega)))) ?_
                rintro _ _ ⟨W9, hm9, rfl, rfl⟩
                refine sr_nil ?_
                show ∃ s', _ ∧ _ ∧ _
                first | exact ⟨W9, ⟨hm9.1.trans hl, hm9⟩, KeepF.auto, Sub.autoP⟩ | exact ⟨W, ⟨hl, Mv.refl W (rotF_triv (by omega) (by omega) (by omega))⟩, KeepF.auto, Sub.autoP⟩
              · refine sr_rd (x_pick_t rfl rfl rfl) ?_
                refine sr_nil ?_
                refine aw_kp [0, 1, 2, 3, 4, 18, 20, 24, 185] ?_
                refine aw_false rfl ?_
                refine aw_skip ?_
                show ∃ s', _ ∧ _ ∧ _
                first | exact ⟨W9, ⟨hm9.1.trans hl, hm9⟩, KeepF.auto, Sub.autoP⟩ | exact ⟨W, ⟨hl, Mv.refl W (rotF_triv (by omega) (by omega) (by omega))⟩, KeepF.auto, Sub.autoP⟩
            · refine sr_mv ?_
              refine sr_sk ?_
              refine sr_sk ?_
              refine sr_sk ?_
              refine sr_rd (x_pick_f rfl rfl rfl) ?_
              refine sr_nil ?_
              refine aw_kp [0, 1, 2, 3, 4, 18, 20, 24, 185] ?_
              refine aw_false rfl ?_
              refine aw_skip ?_
              show ∃ s', _ ∧ _ ∧ _
              first | exact ⟨W9, ⟨hm9.1.trans hl, hm9⟩, KeepF.auto, Sub.autoP⟩ | exact ⟨W, ⟨hl, Mv.refl W (rotF_triv (by omega) (by omega) (by omega))⟩, KeepF.auto, Sub.autoP⟩
          · intro W1 hW1
            obtain ⟨hl1, hm1⟩ := hW1
            obtain ⟨hst1, hin1, hp4⟩ := merge_cut (d := d) (s := i) (e := d + m - i) hsw (by omega) (by omega) (by omega) (by omega) (by omega) (by omega) (by omega) hA hB (fun q1 q2 => by have h7 : c (gd W (d + m - 1 - i)) (gd W i) < 0 := hb5 i (by omega) (by omega); rw [show d + m - i - 1 = d + m - 1 - i by omega]; exact h7) (fun q1 q2 => by have h7 : ¬ c (gd W (d + m - 1 - (i - 1))) (gd W (i - 1)) < 0 := hb4 (i - 1) (by omega) (by omega); rw [show d + m - 1 - (i - 1) = d + m - i by omega] at h7; exact h7) hm1
            refine aw_join (ι := List Ent) (fun W2 => W2.length = n ∧ Mg c W1 a d W2) (fun W2 => [(0, .slice (some ⟨b, 0, none⟩) n cap), (3, .int .i64 e), (4, .func (.func 66) #[] #[]), (18, .int .i64 d), (24, .int .i64 ((d + m - i : Nat) : Int))]) (fun W2 => (b, .cells ((W2).flatMap Ent.cells ++ post).toArray 30 (0, 0)) :: G) ?_ ?_
            · refine aw_seq_region ?_
              refine sr_mv ?_
              refine sr_mv ?_
              refine sr_c (x_lt rfl rfl) (fun h22 => ?_) (fun h22 => ?_)
              · refine sr_mv ?_
                refine sr_ry (x_move rfl) ?_
                refine sr_ry (x_move rfl) ?_
                refine sr_cy (x_lt rfl rfl) (fun h23 => ?_) (fun h23 => ?_)
                · refine sr_rd (x_pick_t rfl rfl rfl) ?_
                  refine sr_nil ?_
                  refine aw_kp [0, 1, 3, 4, 18, 20, 24, 199] ?_
                  refine aw_true rfl ?_
                  refine aw_region ?_
                  refine sr_mv ?_
                  refine sr_mv ?_
                  refine sr_mv ?_
                  refine sr_mv ?_
                  refine sr_mv ?_
                  refine sr_d rfl (wtd_none rfl) rfl (opS_call rfl rfl rfl rfl cl93 (AC.sub Sub.autoP (ih W1 a i d (by omega) (by omega) (by omega) (by omega) (by omega) (hp4.1) (hp4.2.1)))) ?_
                  rintro _ _ ⟨W8, hmg8, rfl, rfl⟩
                  refine sr_nil ?_
                  show ∃ s', _ ∧ _ ∧ _
                  first | exact ⟨W8, ⟨hmg8.2.1.1.trans hl1, hmg8⟩, KeepF.auto, Sub.autoP⟩ | exact ⟨W1, ⟨hl1, Mg.triv (by omega) hp4.1 hp4.2.1⟩, KeepF.auto, Sub.autoP⟩
                · refine sr_rd (x_pick_t rfl rfl rfl) ?_
                  refine sr_nil ?_
                  refine aw_kp [0, 1, 3, 4, 18, 20, 24, 199] ?_
                  refine aw_false rfl ?_
                  refine aw_skip ?_
                  show ∃ s', _ ∧ _ ∧ _
                  first | exact ⟨W8, ⟨hmg8.2.1.1.trans hl1, hmg8⟩, KeepF.auto, Sub.autoP⟩ | exact ⟨W1, ⟨hl1, Mg.triv (by omega) hp4.1 hp4.2.1⟩, KeepF.auto, Sub.autoP⟩
              · refine sr_mv ?_
                refine sr_sk ?_
                refine sr_sk ?_
                refine sr_sk ?_
                refine sr_rd (x_pick_f rfl rfl rfl) ?_
                refine sr_nil ?_
                refine aw_kp [0, 1, 3, 4, 18, 20, 24, 199] ?_
                refine aw_false rfl ?_
                refine aw_skip ?_
                show ∃ s', _ ∧ _ ∧ _
                first | exact ⟨W8, ⟨hmg8.2.1.1.trans hl1, hmg8⟩, KeepF.auto, Sub.autoP⟩ | exact ⟨W1, ⟨hl1, Mg.triv (by omega) hp4.1 hp4.2.1⟩, KeepF.auto, Sub.autoP⟩
            · intro W2 hW2
              obtain ⟨hl2, hmg2⟩ := hW2
              refine aw_seq_region ?_
              refine sr_mv ?_
              refine sr_mv ?_
              refine sr_c (x_lt rfl rfl) (fun h24 => ?_) (fun h24 => ?_)
              · refine sr_mv ?_
                refine sr_ry (x_move rfl) ?_
                refine sr_ry (x_move rfl) ?_
                refine sr_cy (x_lt rfl rfl) (fun h25 => ?_) (fun h25 => ?_)
                · refine sr_rd (x_pick_t rfl rfl rfl) ?_
                  refine sr_nil ?_
                  refine aw_kp [0, 3, 4, 18, 24, 213] ?_
                  refine aw_true rfl ?_
                  refine aw_region ?_
                  refine sr_mv ?_
                  refine sr_mv ?_
                  refine sr_mv ?_
                  refine sr_mv ?_
                  refine sr_mv ?_
                  refine sr_d rfl (wtd_none rfl) rfl (opS_call rfl rfl rfl rfl cl93 (AC.sub Sub.autoP (ih W2 d (d + m - i) e (by omega) (by omega) (by omega) (by omega) (by omega) ((hp4.2.2.1.same fun k q1 q2 => hmg2.2.1.2.1 k (by omega))) ((hp4.2.2.2.1.same fun k q1 q2 => hmg2.2.1.2.1 k (by omega)))))) ?_
                  rintro _ _ ⟨W3, hmg3, rfl, rfl⟩
                  refine sr_nil ?_
                  show ∃ v H2, ResV _ _ _ _ _ _ v ∧ Sub H2 _ ∧ _
                  first | (obtain rfl : i = j := (by omega); obtain rfl : m = a + 1 := (by omega); obtain rfl : i = k + 1 := (by omega); exact ⟨_, _, resV rfl .nil, Sub.refl _, cur, Mg.one_up hsw (by omega) (by omega) (by omega) hB (fun h q1 q2 => Classical.not_not.1 (hb4 h q1 q2)) hb5 hmv, rfl, rfl⟩) | (obtain rfl : i = j := (by omega); obtain rfl : e = m + 1 := (by omega); obtain rfl : k = i := (by omega); exact ⟨_, _, resV rfl .nil, Sub.refl _, cur, Mg.one_down hsw (by omega) (by omega) (by omega) hA hb4 hb5 hmv, rfl, rfl⟩) | exact ⟨_, _, resV rfl .nil, Sub.refl _, W3, merge_end (by omega) hst1 hin1 hp4 hmg2 hmg3, rfl, rfl⟩ | exact ⟨_, _, resV rfl .nil, Sub.refl _, W2, merge_end (by omega) hst1 hin1 hp4 hmg2 (Mg.triv (s := d + m - i) (by omega) (hp4.2.2.1.same fun k q1 q2 => hmg2.2.1.2.1 k (by omega)) (hp4.2.2.2.1.same fun k q1 q2 => hmg2.2.1.2.1 k (by omega))), rfl, rfl⟩
                · refine sr_rd (x_pick_t rfl rfl rfl) ?_
                  refine sr_nil ?_
                  refine aw_kp [0, 3, 4, 18, 24, 213] ?_
                  refine aw_false rfl ?_
                  refine aw_skip ?_
                  show ∃ v H2, ResV _ _ _ _ _ _ v ∧ Sub H2 _ ∧ _
                  first | (obtain rfl : i = j := (by omega); obtain rfl : m = a + 1 := (by omega); obtain rfl : i = k + 1 := (by omega); exact ⟨_, _, resV rfl .nil, Sub.refl _, cur, Mg.one_up hsw (by omega) (by omega) (by omega) hB (fun h q1 q2 => Classical.not_not.1 (hb4 h q1 q2)) hb5 hmv, rfl, rfl⟩) | (obtain rfl : i = j := (by omega); obtain rfl : e = m + 1 := (by omega); obtain rfl : k = i := (by omega); exact ⟨_, _, resV rfl .nil, Sub.refl _, cur, Mg.one_down hsw (by omega) (by omega) (by omega) hA hb4 hb5 hmv, rfl, rfl⟩) | exact ⟨_, _, resV rfl .nil, Sub.refl _, W3, merge_end (by omega) hst1 hin1 hp4 hmg2 hmg3, rfl, rfl⟩ | exact ⟨_, _, resV rfl .nil, Sub.refl _, W2, merge_end (by omega) hst1 hin1 hp4 hmg2 (Mg.triv (s := d + m - i) (by omega) (hp4.2.2.1.same fun k q1 q2 => hmg2.2.1.2.1 k (by omega)) (hp4.2.2.2.1.same fun k q1 q2 => hmg2.2.1.2.1 k (by omega))), rfl, rfl⟩
              · refine sr_mv ?_
                refine sr_sk ?_
                refine sr_sk ?_
                refine sr_sk ?_
                refine sr_rd (x_pick_f rfl rfl rfl) ?_
                refine sr_nil ?_
                refine aw_kp [0, 3, 4, 18, 24, 213] ?_
                refine aw_false rfl ?_
                refine aw_skip ?_
                show ∃ v H2, ResV _ _ _ _ _ _ v ∧ Sub H2 _ ∧ _
                first | (obtain rfl : i = j := (by omega); obtain rfl : m = a + 1 := (by omega); obtain rfl : i = k + 1 := (by omega); exact ⟨_, _, resV rfl .nil, Sub.refl _, cur, Mg.one_up hsw (by omega) (by omega) (by omega) hB (fun h q1 q2 => Classical.not_not.1 (hb4 h q1 q2)) hb5 hmv, rfl, rfl⟩) | (obtain rfl : i = j := (by omega); obtain rfl : e = m + 1 := (by omega); obtain rfl : k = i := (by omega); exact ⟨_, _, resV rfl .nil, Sub.refl _, cur, Mg.one_down hsw (by omega) (by omega) (by omega) hA hb4 hb5 hmv, rfl, rfl⟩) | exact ⟨_, _, resV rfl .nil, Sub.refl _, W3, merge_end (by omega) hst1 hin1 hp4 hmg2 hmg3, rfl, rfl⟩ | exact ⟨_, _, resV rfl .nil, Sub.refl _, W2, merge_end (by omega) hst1 hin1 hp4 hmg2 (Mg.triv (s := d + m - i) (by omega) (hp4.2.2.1.same fun k q1 q2 => hmg2.2.1.2.1 k (by omega)) (hp4.2.2.2.1.same fun k q1 q2 => hmg2.2.1.2.1 k (by omega))), rfl, rfl⟩
theorem esSm_s (b cap n : Nat) (post : List Value) (G : SHeap) (hn : n ≤ 100000) (hcap : n ≤ cap) (hcb : cap ≤ 9223372036854775807) (c : Ent → Ent → Int) (hcmp : ∀ x y V, Sub G V → AC Tryd.prog W0 66 [Ent.v x, Ent.v y] V (fun v H' => v = .int .i64 (c x y) ∧ H' = V)) (hsw : Swo c) : ∀ (k : Nat) (W : List Ent) (a m e : Nat), W.length = n → e - a ≤ k → a < m → m < e → e ≤ n → SrtI c W a m → SrtI c W m e → AC Tryd.prog W0 93 [.slice (some ⟨b, 0, none⟩) n cap, .int .i64 (a : Nat), .int .i64 (m : Nat), .int .i64 (e : Nat), .func (.func 66) #[] #[]] ((b, .cells ((W).flatMap Ent.cells ++ post).toArray 30 (0, 0)) :: G) (fun v H' => ∃ W', Mg c W a e W' ∧ v = .tuple #[] ∧ H' = (b, .cells ((W').flatMap Ent.cells ++ post).toArray 30 (0, 0)) :: G) := by
  intro k
  induction k with
  | zero => intro W a m e hl hk h1 h2; omega
  | succ k ih =>
    intro W a m e hl hk h1 h2 h3 hA hB
    exact esSmW_s b cap n W post G hl hn hcap hcb a m e h1 h2 h3 c hcmp hsw hA hB fun W1 a1 m1 e1 q1 q2 q3 q4 q5 q6 q7 => ih W1 a1 m1 e1 q1 (by omega) q3 q4 q5 q6 q7
set_option maxRecDepth 100000 in
set_option maxHeartbeats 4000000 in
theorem esStb_s (b cap n : Nat) (W : List Ent) (post : List Value) (G : SHeap) (hl : W.length = n) (hn : n ≤ 100000) (hcap : n ≤ cap) (hcb : cap ≤ 9223372036854775807) (c : Ent → Ent → Int) (hcmp : ∀ x y V, Sub G V → AC Tryd.prog W0 66 [Ent.v x, Ent.v y] V (fun v H' => v = .int .i64 (c x y) ∧ H' = V)) (hsw : Swo c) : AC Tryd.prog W0 80 [.slice (some ⟨b, 0, none⟩) n cap, .int .i64 n, .func (.func 66) #[] #[]] ((b, .cells ((W).flatMap Ent.cells ++ post).toArray 30 (0, 0)) :: G) (fun v H' => ∃ W', (St c W W' ∧ SrtI c W' 0 n) ∧ v = .tuple #[] ∧ H' = (b, .cells ((W').flatMap Ent.cells ++ post).toArray 30 (0, 0)) :: G) := by
  refine ac_of Tryd.func80 rfl rfl rfl ?_
  refine aw_seq_region ?_
  refine sr_as ?_
  refine sr_nil ?_
  refine aw_kp [0, 1, 2, 6] ?_
  refine aw_seq_region ?_
  refine sr_mv ?_
  refine sr_as ?_
  refine sr_as ?_
  refine sr_nil ?_
  refine aw_kp [0, 1, 2, 6, 7, 8] ?_
  refine aw_seq ?_
  refine aw_block ?_
  refine aw_loop (ι := SortG Ent) (fun s => s.k ≤ n ∧ s.W.length = n ∧ St c W s.W ∧ Dn c s.W 20 s.k) (fun s => [(0, .slice (some ⟨b, 0, none⟩) n cap), (1, .int .i64 n), (2, .func (.func 66) #[] #[]), (6, .int .i64 20), (7, .int .i64 s.k), (8, .int .i64 ((s.k + 20 : Nat) : Int))]) (fun s => (b, .cells ((s.W).flatMap Ent.cells ++ post).toArray 30 (0, 0)) :: G) (fun s => n - s.k) ⟨0, W⟩ (⟨Nat.zero_le _, hl, St.refl _, Dn.zero⟩) KeepF.auto Sub.autoP ?_
  intro s hs9
  obtain ⟨a, cur⟩ := s
  dsimp only at hs9 ⊢
  obtain ⟨ha, hcl, hst, hdn⟩ := hs9
  refine aw_seq ?_
  refine aw_seq_region ?_
  refine sr_mv ?_
  refine sr_mv ?_
  refine sr_c (x_le rfl rfl) (fun h1 => ?_) (fun h1 => ?_)
  · refine sr_nil ?_
    refine aw_kp [0, 1, 2, 6, 7, 8, 11, 12, 13] ?_
    refine aw_true rfl ?_
    refine aw_skip ?_
    show AW _ _ _ _ _ _ _
    refine aw_block ?_
    refine aw_seq_region ?_
    refine sr_mv ?_
    refine sr_mv ?_
    refine sr_mv ?_
    refine sr_mv ?_
    refine sr_d rfl (wtd_none rfl) rfl (opS_call rfl rfl rfl rfl cl92 (AC.sub Sub.autoP (esIns_s b cap n cur post G (by omega) hn hcap hcb a (a + 20) (by omega) (by omega) c hcmp hsw))) ?_
    rintro _ _ ⟨W9, hm9, rfl, rfl⟩
    refine sr_nil ?_
    refine aw_kp [0, 1, 2, 6, 7, 8, 11, 12, 13, 14, 15, 16, 17] ?_
    refine aw_seq_region ?_
    refine sr_mv ?_
    refine sr_as ?_
    refine sr_nil ?_
    refine aw_kp [0, 1, 2, 6, 7, 8, 11, 12, 13, 14, 15, 16, 17, 19] ?_
    refine aw_region ?_
    refine sr_mv ?_
    refine sr_mv ?_
    refine sr_rd (x_cast (u := .int .i64 ((a + 20 + 20 : Nat) : Int)) (x_add' rfl rfl (i64w (by omega) (by omega))) (by congr 1)) ?_
    refine sr_as ?_
    refine sr_nil ?_
    show ∃ s', _ ∧ _ ∧ _ ∧ _
    exact ⟨⟨a + 20, W9⟩, ⟨by dsimp only; omega, hm9.2.1.1.trans hcl, hst.trans hm9.1, hdn.step hm9.2.1 hm9.2.2⟩, by dsimp only; omega, KeepF.auto, Sub.autoP⟩
  · refine sr_nil ?_
    refine aw_kp [0, 1, 2, 6, 7, 8, 11, 12, 13] ?_
    refine aw_false rfl ?_
    refine aw_exit ?_
    show AW _ _ _ _ _ _ _
    refine aw_seq_region ?_
    refine sr_mv ?_
    refine sr_mv ?_
    refine sr_mv ?_
    refine sr_mv ?_
    refine sr_d rfl (wtd_none rfl) rfl (opS_call rfl rfl rfl rfl cl92 (AC.sub Sub.autoP (esIns_s b cap n cur post G (by omega) hn hcap hcb a n (by omega) (by omega) c hcmp hsw))) ?_
    rintro _ _ ⟨W9, hm9, rfl, rfl⟩
    refine sr_nil ?_
    refine aw_kp [0, 1, 2, 6, 7, 8] ?_
    refine aw_block ?_
    refine aw_loop (ι := SortG Ent) (fun s => 0 < s.k ∧ s.k ≤ 300000 ∧ s.W.length = n ∧ St c W s.W ∧ Ch c s.W s.k 0 n) (fun s => [(0, .slice (some ⟨b, 0, none⟩) n cap), (1, .int .i64 n), (2, .func (.func 66) #[] #[]), (6, .int .i64 s.k)]) (fun s => (b, .cells ((s.W).flatMap Ent.cells ++ post).toArray 30 (0, 0)) :: G) (fun s => n - s.k) ⟨20, W9⟩ (⟨by dsimp only; omega, by dsimp only; omega, hm9.2.1.1.trans hcl, hst.trans hm9.1, hdn.done hm9.2.1 (by omega) hm9.2.2⟩) KeepF.auto Sub.autoP ?_
    intro s hs8
    obtain ⟨bs, cur1⟩ := s
    dsimp only at hs8 ⊢
    obtain ⟨hbs, hbs2, hcl1, hst1, hch1⟩ := hs8
    refine aw_seq ?_
    refine aw_seq_region ?_
    refine sr_mv ?_
    refine sr_mv ?_
    refine sr_c (x_lt rfl rfl) (fun h2 => ?_) (fun h2 => ?_)
    · refine sr_nil ?_
      refine aw_kp [0, 1, 2, 6, 28, 29, 30] ?_
      refine aw_true rfl ?_
      refine aw_skip ?_
      show AW _ _ _ _ _ _ _
      refine aw_block ?_
      refine aw_seq_region ?_
      refine sr_mv ?_
      refine sr_rd (x_cast (u := .int .i64 ((2 * bs : Nat) : Int)) (x_mul' rfl rfl (i64w (by omega) (by omega))) (by congr 1)) ?_
      refine sr_as ?_
      refine sr_as ?_
      refine sr_nil ?_
      refine aw_kp [0, 1, 2, 6, 7, 8, 28, 29, 30, 31, 32] ?_
      refine aw_seq ?_
      refine aw_block ?_
      refine aw_keep (keep_cons (t := 0) rfl (keep_cons (t := 1) rfl (keep_cons (t := 2) rfl (keep_cons (t := 6) rfl (keep_cons (t := 7) rfl (keep_cons (t := 8) (v := .int .i64 ((0 + 2 * bs : Nat) : Int)) (congrArg (fun x => some (Value.int .i64 x)) (by omega)) keep_nil)))))) ?_
      refine aw_loop (ι := SortG Ent) (fun s => s.k ≤ n ∧ s.W.length = n ∧ St c W s.W ∧ Dn c s.W (2 * bs) s.k ∧ Ch c s.W bs s.k n) (fun s => [(0, .slice (some ⟨b, 0, none⟩) n cap), (1, .int .i64 n), (2, .func (.func 66) #[] #[]), (6, .int .i64 bs), (7, .int .i64 s.k), (8, .int .i64 ((s.k + 2 * bs : Nat) : Int))]) (fun s => (b, .cells ((s.W).flatMap Ent.cells ++ post).toArray 30 (0, 0)) :: G) (fun s => n - s.k) ⟨0, cur1⟩ (⟨Nat.zero_le _, hcl1, hst1, Dn.zero, hch1⟩) KeepF.auto Sub.autoP ?_
      intro s hs7
      obtain ⟨a3, cur3⟩ := s
      dsimp only at hs7 ⊢
      obtain ⟨ha3, hcl3, hst3, hdn3, hch3⟩ := hs7
      refine aw_seq ?_
      refine aw_seq_region ?_
      refine sr_mv ?_
      refine sr_mv ?_
      refine sr_c (x_le rfl rfl) (fun h3 => ?_) (fun h3 => ?_)
      · refine sr_nil ?_
        refine aw_kp [0, 1, 2, 6, 7, 8, 33, 34, 35] ?_
        refine aw_true rfl ?_
        refine aw_skip ?_
        show AW _ _ _ _ _ _ _
        refine aw_block ?_
        refine aw_seq_region ?_
        have htw := hch3.two hbs (by omega)
        refine sr_mv ?_
        refine sr_mv ?_
        refine sr_mv ?_
        refine sr_mv ?_
        refine sr_rd (x_cast (u := .int .i64 ((a3 + bs : Nat) : Int)) (x_add' rfl rfl (i64w (by omega) (by omega))) (by congr 1)) ?_
        refine sr_mv ?_
        refine sr_mv ?_
        refine sr_d rfl (wtd_none rfl) rfl (opS_call rfl rfl rfl rfl cl93 (AC.sub Sub.autoP (esSm_s b cap n post G hn hcap hcb c hcmp hsw _ cur3 a3 (a3 + bs) (a3 + 2 * bs) (by omega) (Nat.le_refl _) (by omega) (by omega) (by omega) (htw.1) (htw.2.1)))) ?_
        rintro _ _ ⟨W9, hm9, rfl, rfl⟩
        refine sr_nil ?_
        refine aw_kp [0, 1, 2, 6, 7, 8, 33, 34, 35, 36, 37, 38, 39, 40, 41, 42] ?_
        refine aw_seq_region ?_
        refine sr_mv ?_
        refine sr_as ?_
        refine sr_nil ?_
        refine aw_kp [0, 1, 2, 6, 7, 8, 33, 34, 35, 36, 37, 38, 39, 40, 41, 42, 44] ?_
        refine aw_region ?_
        refine sr_mv ?_
        refine sr_mv ?_
        refine sr_rd (x_cast (u := .int .i64 ((2 * bs : Nat) : Int)) (x_mul' rfl rfl (i64w (by omega) (by omega))) (by congr 1)) ?_
        refine sr_rd (x_cast (u := .int .i64 ((a3 + 2 * bs + 2 * bs : Nat) : Int)) (x_add' rfl rfl (i64w (by omega) (by omega))) (by congr 1)) ?_
        refine sr_as ?_
        refine sr_nil ?_
        show ∃ s', _ ∧ _ ∧ _ ∧ _
        exact ⟨⟨a3 + 2 * bs, W9⟩, ⟨by dsimp only; omega, hm9.2.1.1.trans hcl3, hst3.trans hm9.1, hdn3.step hm9.2.1 hm9.2.2, htw.2.2.same fun k q => hm9.2.1.2.1 k (by omega)⟩, by dsimp only; omega, KeepF.auto, Sub.autoP⟩
      · refine sr_nil ?_
        refine aw_kp [0, 1, 2, 6, 7, 8, 33, 34, 35] ?_
        refine aw_false rfl ?_
        refine aw_exit ?_
        show AW _ _ _ _ _ _ _
        refine aw_seq ?_
        refine aw_seq_region ?_
        refine sr_mv ?_
        refine sr_mv ?_
        refine sr_rd (x_cast (u := .int .i64 ((a3 + bs : Nat) : Int)) (x_add' rfl rfl (i64w (by omega) (by omega))) (by congr 1)) ?_
        refine sr_as ?_
        refine sr_nil ?_
        refine aw_kp [0, 1, 2, 6, 7, 8, 9, 33, 34, 35, 49, 50, 51] ?_
        refine aw_seq_region ?_
        refine sr_mv ?_
        refine sr_mv ?_
        refine sr_c (x_lt rfl rfl) (fun h4 => ?_) (fun h4 => ?_)
        · refine sr_nil ?_
          refine aw_kp [0, 1, 2, 6, 7, 8, 9, 33, 34, 35, 49, 50, 51, 52, 53, 54] ?_
          refine aw_true rfl ?_
          refine aw_region ?_
          have hrs := hch3.rest (by omega) (by omega)
          refine sr_mv ?_
          refine sr_mv ?_
          refine sr_mv ?_
          refine sr_mv ?_
          refine sr_mv ?_
          refine sr_d rfl (wtd_none rfl) rfl (opS_call rfl rfl rfl rfl cl93 (AC.sub Sub.autoP (esSm_s b cap n post G hn hcap hcb c hcmp hsw _ cur3 a3 (a3 + bs) n (by omega) (Nat.le_refl _) (by omega) (by omega) (by omega) (hrs.1) (hrs.2)))) ?_
          rintro _ _ ⟨W9, hm9, rfl, rfl⟩
          refine sr_nil ?_
          show AW _ _ _ _ _ _ _
          refine aw_region ?_
          refine sr_mv ?_
          refine sr_rd (x_cast (u := .int .i64 ((bs * 2 : Nat) : Int)) (x_mul' rfl rfl (i64w (by omega) (by omega))) (by congr 1)) ?_
          refine sr_as ?_
          refine sr_nil ?_
          show ∃ s', _ ∧ _ ∧ _ ∧ _
          first | exact ⟨⟨bs * 2, W9⟩, ⟨by dsimp only; omega, by dsimp only; omega, hm9.2.1.1.trans hcl3, hst3.trans hm9.1, (by dsimp only; rw [Nat.mul_comm]; exact hdn3.done hm9.2.1 (by omega) hm9.2.2)⟩, by dsimp only; omega, KeepF.auto, Sub.autoP⟩ | exact ⟨⟨bs * 2, cur3⟩, ⟨by dsimp only; omega, by dsimp only; omega, hcl3, hst3, (by dsimp only; rw [Nat.mul_comm]; exact hdn3.done (InR.refl _ _ _) (by omega) (hch3.all (by omega)))⟩, by dsimp only; omega, KeepF.auto, Sub.autoP⟩
        · refine sr_nil ?_
          refine aw_kp [0, 1, 2, 6, 7, 8, 9, 33, 34, 35, 49, 50, 51, 52, 53, 54] ?_
          refine aw_false rfl ?_
          refine aw_skip ?_
          show AW _ _ _ _ _ _ _
          refine aw_region ?_
          refine sr_mv ?_
          refine sr_rd (x_cast (u := .int .i64 ((bs * 2 : Nat) : Int)) (x_mul' rfl rfl (i64w (by omega) (by omega))) (by congr 1)) ?_
          refine sr_as ?_
          refine sr_nil ?_
          show ∃ s', _ ∧ _ ∧ _ ∧ _
          first | exact ⟨⟨bs * 2, W9⟩, ⟨by dsimp only; omega, by dsimp only; omega, hm9.2.1.1.trans hcl3, hst3.trans hm9.1, (by dsimp only; rw [Nat.mul_comm]; exact hdn3.done hm9.2.1 (by omega) hm9.2.2)⟩, by dsimp only; omega, KeepF.auto, Sub.autoP⟩ | exact ⟨⟨bs * 2, cur3⟩, ⟨by dsimp only; omega, by dsimp only; omega, hcl3, hst3, (by dsimp only; rw [Nat.mul_comm]; exact hdn3.done (InR.refl _ _ _) (by omega) (hch3.all (by omega)))⟩, by dsimp only; omega, KeepF.auto, Sub.autoP⟩
    · refine sr_nil ?_
      refine aw_kp [0, 1, 2, 6, 28, 29, 30] ?_
      refine aw_false rfl ?_
      refine aw_exit ?_
      show ∃ v H2, ResV _ _ _ _ _ _ v ∧ Sub H2 _ ∧ _
      exact ⟨_, _, resV rfl .nil, Sub.refl _, cur1, ⟨hst1, hch1.all (by omega)⟩, rfl, rfl⟩
set_option maxRecDepth 100000 in
set_option maxHeartbeats 400000 in
theorem esSrt_s (b cap n : Nat) (W : List Ent) (post : List Value) (G : SHeap) (hl : W.length = n) (hn : n ≤ 100000) (hcap : n ≤ cap) (hcb : cap ≤ 9223372036854775807) (c : Ent → Ent → Int) (hcmp : ∀ x y V, Sub G V → AC Tryd.prog W0 66 [Ent.v x, Ent.v y] V (fun v H' => v = .int .i64 (c x y) ∧ H' = V)) (hsw : Swo c) : AC Tryd.prog W0 65 [.slice (some ⟨b, 0, none⟩) n cap, .func (.func 66) #[] #[]] ((b, .cells ((W).flatMap Ent.cells ++ post).toArray 30 (0, 0)) :: G) (fun v H' => ∃ W', (St c W W' ∧ SrtI c W' 0 n) ∧ v = .tuple #[] ∧ H' = (b, .cells ((W').flatMap Ent.cells ++ post).toArray 30 (0, 0)) :: G) := by
  refine ac_of Tryd.func65 rfl rfl rfl ?_
  refine aw_region ?_
  refine sr_mv ?_
  refine sr_mv ?_
  refine sr_rd (x_lenSlice Tryd.underlying24 rfl) ?_
  refine sr_mv ?_
  refine sr_d rfl (wtd_none rfl) rfl (opS_call rfl rfl rfl rfl cl80 (AC.sub Sub.autoP (esStb_s b cap n W post G hl hn hcap hcb c hcmp hsw))) ?_
  rintro _ _ ⟨W9, hm9, rfl, rfl⟩
  refine sr_nil ?_
  show ∃ v H2, ResV _ _ _ _ _ _ v ∧ Sub H2 _ ∧ _
  exact ⟨_, _, resV rfl .nil, Sub.refl _, W9, hm9, rfl, rfl⟩
set_option maxRecDepth 100000 in
set_option maxHeartbeats 400000 in
theorem esInsN_s (G : SHeap) : AC Tryd.prog W0 92 [.slice none 0 0, .int .i64 ((0 : Nat) : Int), .int .i64 ((0 : Nat) : Int), .func (.func 66) #[] #[]] G (fun v H' => v = .tuple #[] ∧ H' = G) := by
  refine ac_of Tryd.func92 rfl rfl rfl ?_
  refine aw_seq_region ?_
  refine sr_mv ?_
  refine sr_rd (x_add' rfl rfl (i64w (by omega) (by omega))) ?_
  refine sr_as ?_
  refine sr_nil ?_
  refine aw_kp [0, 1, 2, 3, 8] ?_
  refine aw_block ?_
  refine aw_loop (ι := Unit) (fun _ => True) (fun _ => [(2, .int .i64 ((0 : Nat) : Int)), (8, .int .i64 1)]) (fun _ => G) (fun _ => 0) () (trivial) KeepF.auto (by repeat (first | exact Sub.refl _ | apply Sub.drop)) ?_
  intro _ _
  refine aw_seq ?_
  refine aw_seq_region ?_
  refine sr_mv ?_
  refine sr_mv ?_
  refine sr_c (x_lt rfl rfl) (fun h1 => absurd h1 (by first | omega | decide)) (fun h1 => ?_)
  refine sr_nil ?_
  refine aw_kp [2, 8, 12, 13, 14] ?_
  refine aw_false rfl ?_
  refine aw_exit ?_
  show ∃ v H2, ResV _ _ _ _ _ _ v ∧ Sub H2 _ ∧ _
  exact ⟨_, G, resV rfl .nil, (by repeat (first | exact Sub.refl _ | apply Sub.drop)), ⟨rfl, rfl⟩⟩
set_option maxRecDepth 100000 in
set_option maxHeartbeats 400000 in
theorem esStbN_s (G : SHeap) : AC Tryd.prog W0 80 [.slice none 0 0, .int .i64 ((0 : Nat) : Int), .func (.func 66) #[] #[]] G (fun v H' => v = .tuple #[] ∧ H' = G) := by
  refine ac_of Tryd.func80 rfl rfl rfl ?_
  refine aw_seq_region ?_
  refine sr_as ?_
  refine sr_nil ?_
  refine aw_kp [0, 1, 2, 6] ?_
  refine aw_seq_region ?_
  refine sr_mv ?_
  refine sr_as ?_
  refine sr_as ?_
  refine sr_nil ?_
  refine aw_kp [0, 1, 2, 6, 7, 8] ?_
  refine aw_seq ?_
  refine aw_block ?_
  refine aw_loop (ι := Unit) (fun _ => True) (fun _ => [(0, .slice none 0 0), (1, .int .i64 ((0 : Nat) : Int)), (2, .func (.func 66) #[] #[]), (6, .int .i64 20), (7, .int .i64 ((0 : Nat) : Int)), (8, .int .i64 20)]) (fun _ => G) (fun _ => 0) () (trivial) KeepF.auto (by repeat (first | exact Sub.refl _ | apply Sub.drop)) ?_
  intro _ _
  refine aw_seq ?_
  refine aw_seq_region ?_
  refine sr_mv ?_
  refine sr_mv ?_
  refine sr_c (x_le rfl rfl) (fun h1 => absurd h1 (by first | omega | decide)) (fun h1 => ?_)
  refine sr_nil ?_
  refine aw_kp [0, 1, 2, 6, 7, 8, 11, 12, 13] ?_
  refine aw_false rfl ?_
  refine aw_exit ?_
  show AW _ _ _ _ _ _ _
  refine aw_seq_region ?_
  refine sr_mv ?_
  refine sr_mv ?_
  refine sr_mv ?_
  refine sr_mv ?_
  refine sr_d rfl (wtd_none rfl) rfl (opS_call rfl rfl rfl rfl cl92 (esInsN_s _)) ?_
  rintro _ G ⟨rfl, rfl⟩
  refine sr_nil ?_
  refine aw_kp [0, 1, 2, 6, 7, 8] ?_
  refine aw_block ?_
  refine aw_loop (ι := Unit) (fun _ => True) (fun _ => [(1, .int .i64 ((0 : Nat) : Int)), (6, .int .i64 20)]) (fun _ => G) (fun _ => 0) () (trivial) KeepF.auto (by repeat (first | exact Sub.refl _ | apply Sub.drop)) ?_
  intro _ _
  refine aw_seq ?_
  refine aw_seq_region ?_
  refine sr_mv ?_
  refine sr_mv ?_
  refine sr_c (x_lt rfl rfl) (fun h2 => absurd h2 (by first | omega | decide)) (fun h2 => ?_)
  refine sr_nil ?_
  refine aw_kp [1, 6, 28, 29, 30] ?_
  refine aw_false rfl ?_
  refine aw_exit ?_
  show ∃ v H2, ResV _ _ _ _ _ _ v ∧ Sub H2 _ ∧ _
  exact ⟨_, G, resV rfl .nil, (by repeat (first | exact Sub.refl _ | apply Sub.drop)), ⟨rfl, rfl⟩⟩
set_option maxRecDepth 100000 in
set_option maxHeartbeats 400000 in
theorem esSrtN_s (G : SHeap) : AC Tryd.prog W0 65 [.slice none 0 0, .func (.func 66) #[] #[]] G (fun v H' => v = .tuple #[] ∧ H' = G) := by
  refine ac_of Tryd.func65 rfl rfl rfl ?_
  refine aw_region ?_
  refine sr_mv ?_
  refine sr_mv ?_
  refine sr_rd (x_lenSlice Tryd.underlying24 rfl) ?_
  refine sr_mv ?_
  refine sr_d rfl (wtd_none rfl) rfl (opS_call rfl rfl rfl rfl cl80 (esStbN_s _)) ?_
  rintro _ G ⟨rfl, rfl⟩
  refine sr_nil ?_
  show ∃ v H2, ResV _ _ _ _ _ _ v ∧ Sub H2 _ ∧ _
  exact ⟨_, G, resV rfl .nil, (by repeat (first | exact Sub.refl _ | apply Sub.drop)), ⟨rfl, rfl⟩⟩
theorem esV_s (a : Option Addr) (cap n : Nat) (W : List Ent) (E G : SHeap) (V : OwnVec 6 30 (.slice a n cap) n (W.flatMap Ent.cells) E) (hl : W.length = n) (hn : n ≤ 100000) (c : Ent → Ent → Int) (hcmp : ∀ x y V, Sub G V → AC Tryd.prog W0 66 [Ent.v x, Ent.v y] V (fun v H' => v = .int .i64 (c x y) ∧ H' = V)) (hsw : Swo c) :
    AC Tryd.prog W0 65 [.slice a n cap, .func (.func 66) #[] #[]] (E ++ G) (fun v H' => ∃ W' E', St c W W' ∧ SrtI c W' 0 n ∧ v = .tuple #[] ∧ OwnVec 6 30 (.slice a n cap) n (W'.flatMap Ent.cells) E' ∧ H' = E' ++ G) := by
  generalize hL : W.flatMap Ent.cells = L at V
  cases V with
  | nil =>
    obtain rfl : W = [] := List.length_eq_zero_iff.1 hl
    exact (esSrtN_s G).mono fun v H' ⟨h1, h2⟩ => ⟨[], [], St.refl _, fun i j _ _ h => by omega, h1, .nil, h2⟩
  | @mk r n cap L post h1 h2 h3 h4 =>
    subst hL
    exact (esSrt_s r cap n W post G hl hn h3 h4 c hcmp hsw).mono fun v H' ⟨W', ⟨q1, q2⟩, q3, q4⟩ => ⟨W', _, q1, q2, q3, .mk (by rw [flat_len (n := 6) (enc := Ent.cells) (fun _ => rfl), q1.1.length_eq, hl]) h2 h3 h4, q4⟩
set_option maxRecDepth 100000 in
set_option maxHeartbeats 400000 in
theorem esort_s (a : Option Addr) (cap : Nat) (xs : List Ent) (H : SHeap) (hs : SlV W0 H 6 Ent.cells a cap xs) (hxl : xs.length ≤ 1000) : AC Tryd.prog W0 36 [.slice a xs.length cap] H (fun v H' => ∃ W a2 cap2 E2, v = .slice a2 xs.length cap2 ∧ St cE xs W ∧ SrtI cE W 0 xs.length ∧ OwnVec 6 30 (.slice a2 xs.length cap2) xs.length (W.flatMap Ent.cells) E2 ∧ H' = E2 ++ H) := by
  refine ac_of Tryd.func36 rfl rfl rfl ?_
  refine aw_seq_region ?_
  refine sr_as ?_
  refine sr_nil ?_
  refine aw_kp [0, 2] ?_
  refine aw_seq_region ?_
  refine sr_mv ?_
  refine sr_d rfl (wtd_none rfl) rfl (opS_call rfl rfl rfl rfl cl64 (eclone_s a cap xs H hs (by omega))) ?_
  rintro _ _ ⟨E2, ⟨a2, cap2, V2, rfl⟩, rfl⟩
  refine sr_as ?_
  refine sr_nil ?_
  refine aw_kp [2, 3] ?_
  refine aw_seq_region ?_
  refine sr_mv ?_
  refine sr_d rfl (wtd_none rfl) rfl (opS_call rfl rfl rfl rfl cl65 (esV_s a2 cap2 xs.length xs E2 H V2 rfl (by omega) cE (fun x y V _ => ecmp_s x y V) swoE)) ?_
  rintro _ _ ⟨W, E3, hst, hsr, rfl, V3, rfl⟩
  refine sr_nil ?_
  refine aw_kp [2, 3] ?_
  refine aw_seq_region ?_
  refine sr_mv ?_
  refine sr_as ?_
  refine sr_nil ?_
  refine aw_kp [2] ?_
  refine aw_ret ?_
  show ∃ v H2, ResV _ _ _ _ _ _ v ∧ Sub H2 _ ∧ _
  exact ⟨_, (E3 ++ H), resV rfl (.cons rfl .nil), (by repeat (first | exact Sub.refl _ | apply Sub.drop)), ⟨W, a2, cap2, E3, rfl, hst, hsr, V3, rfl⟩⟩
set_option maxRecDepth 100000 in
set_option maxHeartbeats 400000 in
theorem ereq_s (x : Ent) (H : SHeap) : AC Tryd.prog W0 37 [x.v] H (fun v H' => v = ((⟨1, 0, x.user, x.width, x.limit, x.prio, false, 0, 0⟩ : Req)).v ∧ H' = H) := by
  refine ac_of Tryd.func37 rfl rfl rfl ?_
  refine aw_seq_region ?_
  refine sr_new rfl (wtd_none rfl) rfl (x_box rfl rfl) ?_
  intro r0_0 hr0_0 gr0_0
  refine sr_new rfl (wtd_none rfl) rfl (x_alloc zr35 rfl) ?_
  intro r0_1 hr0_1 gr0_1
  refine sr_nil ?_
  refine aw_kp [1, 2] ?_
  refine aw_seq_region ?_
  refine sr_rd (x_fieldAddr fd30_4 rfl) ?_
  refine sr_rd (x_load ag3 rfl (cells_ext mauto Ext.auto)) ?_
  refine sr_rd (x_fieldAddr fd30_3 rfl) ?_
  refine sr_rd (x_load ag3 rfl (cells_ext mauto Ext.auto)) ?_
  refine sr_rd (x_fieldAddr fd30_2 rfl) ?_
  refine sr_rd (x_load ag2 rfl (cells_ext mauto Ext.auto)) ?_
  refine sr_rd (x_fieldAddr fd30_5 rfl) ?_
  refine sr_rd (x_load ag3 rfl (cells_ext mauto Ext.auto)) ?_
  refine sr_rd (x_build zr35 rfl fl35 Parts.auto Fill.auto) ?_
  refine sr_x0 rfl (wtd_none rfl) (x_store sz35 rfl rfl rfl rfl rfl Repl.auto Spl.auto) ?_
  refine sr_nil ?_
  refine aw_kp [2] ?_
  refine aw_ret ?_
  show ∃ v H2, ResV _ _ _ _ _ _ v ∧ Sub H2 _ ∧ _
  exact ⟨_, H, resV rfl (.cons (⟨_, rfl, fun hw => rd_loadVarN ag35 sz35 hw (cells_ext mauto Ext.auto) rfl⟩) .nil), Sub.autoP, ⟨rfl, rfl⟩⟩
end
end Go.Proofs.YtbcajgkaepihfaaDoor
