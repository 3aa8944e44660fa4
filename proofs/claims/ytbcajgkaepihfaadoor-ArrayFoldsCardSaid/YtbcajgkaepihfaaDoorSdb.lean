/- Texts are split at a byte. -/
import Derived.Test.YtbcajgkaepihfaaDoorSda
namespace Go.Proofs.YtbcajgkaepihfaaDoor
open Go.Proofs.YtbcajgkaepihfaaDoor.Sym
open Go.RowKit (Below)
set_option linter.unusedVariables false
set_option linter.unusedSimpArgs false
structure SpG where
  dn : List (List UInt8)
  r : List UInt8
@[reducible] def strC (w : List UInt8) : List Value := [.string (bs w)]
theorem one_eq {w r : List UInt8} {c : UInt8} (h : [c] = w ++ c :: r) : w = [] := by
  cases w with
  | nil => rfl
  | cons x w => have := congrArg List.length h; simp at this
theorem drop_mid {w r : List UInt8} {c : UInt8} : (w ++ c :: r).drop (w.length + 1) = r := by
  rw [← List.drop_drop, List.drop_left' rfl]; rfl
theorem cnt_mid {w r : List UInt8} {c : UInt8} (hw : c ∉ w) : cntB c (w ++ c :: r) = cntB c r + 1 := by
  have h1 := spl_len (c := c) (l := w ++ c :: r)
  have h2 := spl_len (c := c) (l := r)
  rw [spl_find hw, List.length_cons] at h1
  omega
theorem cnt_mem {c : UInt8} {r : List UInt8} (h : 0 < cntB c r) : c ∈ r := by
  rcases Decidable.em (c ∈ r) with q | q
  · exact q
  · have := spl_len (c := c) (l := r)
    rw [spl_none q, List.length_singleton] at this
    omega
theorem cnt_no {c : UInt8} {r : List UInt8} (h : cntB c r = 0) : c ∉ r := fun q => by
  obtain ⟨w, r2, rfl, hw⟩ := find_ex q
  rw [cnt_mid hw] at h; omega
theorem spl_fill {dn : List (List UInt8)} {n : Nat} {w : List UInt8} {z : Value} (h : dn.length < n) : Spl (dn.flatMap strC ++ List.replicate (n - dn.length) z) (0 + dn.length * 1) [.string (bs w)] ((dn ++ [w]).flatMap strC ++ List.replicate (n - (dn.length + 1)) z) := by
  have e1 : List.replicate (n - dn.length) z = [z] ++ List.replicate (n - (dn.length + 1)) z := by
    rw [show n - dn.length = (n - (dn.length + 1)) + 1 by omega, List.replicate_succ]; rfl
  have e2 : (dn ++ [w]).flatMap strC = dn.flatMap strC ++ [.string (bs w)] := by rw [List.flatMap_append]; rfl
  rw [e1, e2, List.append_assoc]
  exact spl3 (by rw [flat_len (n := 1) (fun _ => rfl)]; omega) rfl
theorem by9 : bytesOf Tryd.prog 9 = some 16 := by kernel_rfl
theorem cl112 : Callable Tryd.prog 112 := ⟨Tryd.f112, Tryd.func112, by kernel_rfl, by kernel_rfl⟩
theorem cl122 : Callable Tryd.prog 122 := ⟨Tryd.f122, Tryd.func122, by kernel_rfl, by kernel_rfl⟩
theorem cl74 : Callable Tryd.prog 74 := ⟨Tryd.f74, Tryd.func74, by kernel_rfl, by kernel_rfl⟩
theorem cl88 : Callable Tryd.prog 88 := ⟨Tryd.f88, Tryd.func88, by kernel_rfl, by kernel_rfl⟩
theorem cl89 : Callable Tryd.prog 89 := ⟨Tryd.f89, Tryd.func89, by kernel_rfl, by kernel_rfl⟩
theorem exf111 : Extern.find Tryd.f111 = some Extern.BytealgCount.count := by kernel_rfl
theorem exf128 : Extern.find Tryd.f128 = some Extern.BytealgIndexByte.indexByte := by kernel_rfl
theorem exn111 : Extern.findNext Tryd.f111 = none := by kernel_rfl
theorem exn128 : Extern.findNext Tryd.f128 = none := by kernel_rfl
theorem sz9 : szOf Tryd.prog 9 = some 1 := by kernel_rfl
theorem zr9 : zeroOf Tryd.prog 9 = some (.string .empty) := by kernel_rfl
section
variable {W0 : World}
set_option maxRecDepth 100000 in
set_option maxHeartbeats 400000 in
theorem idxb_s (w r : List UInt8) (c : UInt8) (hw : c ∉ w) (H : SHeap) : AC Tryd.prog W0 122 [.string (bs (w ++ c :: r)), .int .u8 c.toNat] H (fun v H' => v = .int .i64 w.length ∧ H' = H) := by
  refine ac_of Tryd.func122 rfl rfl rfl ?_
  refine aw_seq_region ?_
  refine sr_as ?_
  refine sr_nil ?_
  refine aw_kp [0, 1, 4] ?_
  refine aw_seq_region ?_
  refine sr_mv ?_
  refine sr_mv ?_
  refine sr_rd (x_extern (fn := Tryd.f128) (v := .int .i64 w.length) rfl rfl rfl Tryd.func128 (by kernel_rfl) (by kernel_rfl) exn128 exf128 (fun _ => rd_indexByte hw)) ?_
  refine sr_as ?_
  refine sr_nil ?_
  refine aw_kp [4] ?_
  refine aw_ret ?_
  show ∃ v H2, ResV _ _ _ _ _ _ v ∧ Sub H2 _ ∧ _
  exact ⟨_, H, resV rfl (.cons rfl .nil), (by repeat (first | exact Sub.refl _ | apply Sub.drop)), ⟨rfl, rfl⟩⟩
set_option maxRecDepth 100000 in
set_option maxHeartbeats 400000 in
theorem idxbN_s (l : List UInt8) (c : UInt8) (hw : c ∉ l) (H : SHeap) : AC Tryd.prog W0 122 [.string (bs l), .int .u8 c.toNat] H (fun v H' => v = .int .i64 (-1) ∧ H' = H) := by
  refine ac_of Tryd.func122 rfl rfl rfl ?_
  refine aw_seq_region ?_
  refine sr_as ?_
  refine sr_nil ?_
  refine aw_kp [0, 1, 4] ?_
  refine aw_seq_region ?_
  refine sr_mv ?_
  refine sr_mv ?_
  refine sr_rd (x_extern (fn := Tryd.f128) (v := .int .i64 (-1)) rfl rfl rfl Tryd.func128 (by kernel_rfl) (by kernel_rfl) exn128 exf128 (fun _ => rd_indexByteN hw)) ?_
  refine sr_as ?_
  refine sr_nil ?_
  refine aw_kp [4] ?_
  refine aw_ret ?_
  show ∃ v H2, ResV _ _ _ _ _ _ v ∧ Sub H2 _ ∧ _
  exact ⟨_, H, resV rfl (.cons rfl .nil), (by repeat (first | exact Sub.refl _ | apply Sub.drop)), ⟨rfl, rfl⟩⟩
set_option maxRecDepth 100000 in
set_option maxHeartbeats 400000 in
theorem index0_s (w r : List UInt8) (c : UInt8) (hw : c ∉ w) (H : SHeap) : AC Tryd.prog W0 112 [.string (bs (w ++ c :: r)), .string (bs [c])] H (fun v H' => v = .int .i64 w.length ∧ H' = H) := by
  have hc1 : ([c] : List UInt8).length = 1 := rfl
  refine ac_of Tryd.func112 rfl rfl rfl ?_
  refine aw_seq_region ?_
  refine sr_as ?_
  refine sr_nil ?_
  refine aw_kp [0, 1, 4] ?_
  refine aw_seq_region ?_
  refine sr_mv ?_
  refine sr_rd (x_lenB Tryd.underlying9 rfl) ?_
  refine sr_as ?_
  refine sr_nil ?_
  refine aw_kp [0, 1, 4, 5] ?_
  refine aw_seq ?_
  refine aw_block ?_
  refine aw_seq_region ?_
  refine sr_mv ?_
  refine sr_c (x_eq rfl rfl) (fun h1 => absurd h1 (by first | omega | decide)) (fun h1 => ?_)
  refine sr_mv ?_
  refine sr_ry (x_move rfl) ?_
  refine sr_ry (x_move rfl) ?_
  refine sr_cy (x_eqB rfl rfl) (fun h2 => ?_) (fun h2 => ?_)
  · refine sr_rd (x_pick_f rfl rfl rfl) ?_
    refine sr_as ?_
    refine sr_nil ?_
    refine aw_kp [0, 1, 4, 5, 16] ?_
    refine aw_true rfl ?_
    refine aw_seq_region ?_
    refine sr_as ?_
    refine sr_nil ?_
    refine aw_kp [0, 1, 4, 5] ?_
    refine aw_ret ?_
    show ∃ v H2, ResV _ _ _ _ _ _ v ∧ Sub H2 _ ∧ _
    exact ⟨_, H, resV rfl (.cons rfl .nil), (by repeat (first | exact Sub.refl _ | apply Sub.drop)), (by first | exact ⟨rfl, rfl⟩ | exact ⟨congrArg (Value.int .i64) (by rw [one_eq (c := c) (w := w) (r := r) (by assumption)]; rfl), rfl⟩)⟩
  · refine sr_rd (x_pick_f rfl rfl rfl) ?_
    refine sr_as ?_
    refine sr_nil ?_
    refine aw_kp [0, 1, 4, 5, 16] ?_
    refine aw_false rfl ?_
    refine aw_seq_region ?_
    refine sr_mv ?_
    refine sr_c (x_eq rfl rfl) (fun h3 => ?_) (fun h3 => absurd (by first | omega | decide) h3)
    refine sr_as ?_
    refine sr_nil ?_
    refine aw_kp [0, 1, 4, 5, 24] ?_
    refine aw_true rfl ?_
    refine aw_seq_region ?_
    refine sr_mv ?_
    refine sr_mv ?_
    refine sr_rd (x_indexB 0 Tryd.underlying9 rfl rfl (by first | rfl | omega) rfl) ?_
    refine sr_d rfl (wtd_none rfl) rfl (opS_call rfl rfl rfl rfl cl122 (idxb_s w r c hw _)) ?_
    rintro _ H ⟨rfl, rfl⟩
    refine sr_as ?_
    refine sr_nil ?_
    refine aw_kp [0, 1, 4, 5] ?_
    refine aw_ret ?_
    show ∃ v H2, ResV _ _ _ _ _ _ v ∧ Sub H2 _ ∧ _
    exact ⟨_, H, resV rfl (.cons rfl .nil), (by repeat (first | exact Sub.refl _ | apply Sub.drop)), (by first | exact ⟨rfl, rfl⟩ | exact ⟨congrArg (Value.int .i64) (by rw [one_eq (c := c) (w := w) (r := r) (by assumption)]; rfl), rfl⟩)⟩
set_option maxRecDepth 100000 in
set_option maxHeartbeats 400000 in
theorem indexN0_s (l : List UInt8) (c : UInt8) (hw : c ∉ l) (H : SHeap) : AC Tryd.prog W0 112 [.string (bs l), .string (bs [c])] H (fun v H' => v = .int .i64 (-1) ∧ H' = H) := by
  have hc1 : ([c] : List UInt8).length = 1 := rfl
  refine ac_of Tryd.func112 rfl rfl rfl ?_
  refine aw_seq_region ?_
  refine sr_as ?_
  refine sr_nil ?_
  refine aw_kp [0, 1, 4] ?_
  refine aw_seq_region ?_
  refine sr_mv ?_
  refine sr_rd (x_lenB Tryd.underlying9 rfl) ?_
  refine sr_as ?_
  refine sr_nil ?_
  refine aw_kp [0, 1, 4, 5] ?_
  refine aw_seq ?_
  refine aw_block ?_
  refine aw_seq_region ?_
  refine sr_mv ?_
  refine sr_c (x_eq rfl rfl) (fun h1 => absurd h1 (by first | omega | decide)) (fun h1 => ?_)
  refine sr_mv ?_
  refine sr_ry (x_move rfl) ?_
  refine sr_ry (x_move rfl) ?_
  refine sr_cy (x_eqB rfl rfl) (fun h2 => absurd h2 (by exact fun h => hw (h ▸ List.mem_singleton_self c))) (fun h2 => ?_)
  refine sr_rd (x_pick_f rfl rfl rfl) ?_
  refine sr_as ?_
  refine sr_nil ?_
  refine aw_kp [0, 1, 4, 5, 16] ?_
  refine aw_false rfl ?_
  refine aw_seq_region ?_
  refine sr_mv ?_
  refine sr_c (x_eq rfl rfl) (fun h3 => ?_) (fun h3 => absurd (by first | omega | decide) h3)
  refine sr_as ?_
  refine sr_nil ?_
  refine aw_kp [0, 1, 4, 5, 24] ?_
  refine aw_true rfl ?_
  refine aw_seq_region ?_
  refine sr_mv ?_
  refine sr_mv ?_
  refine sr_rd (x_indexB 0 Tryd.underlying9 rfl rfl (by first | rfl | omega) rfl) ?_
  refine sr_d rfl (wtd_none rfl) rfl (opS_call rfl rfl rfl rfl cl122 (idxbN_s l c hw _)) ?_
  rintro _ H ⟨rfl, rfl⟩
  refine sr_as ?_
  refine sr_nil ?_
  refine aw_kp [0, 1, 4, 5] ?_
  refine aw_ret ?_
  show ∃ v H2, ResV _ _ _ _ _ _ v ∧ Sub H2 _ ∧ _
  exact ⟨_, H, resV rfl (.cons rfl .nil), (by repeat (first | exact Sub.refl _ | apply Sub.drop)), ⟨rfl, rfl⟩⟩
set_option maxRecDepth 100000 in
set_option maxHeartbeats 400000 in
theorem index_s (w r : List UInt8) (c : UInt8) (hw : c ∉ w) (H : SHeap) : AC Tryd.prog W0 89 [.string (bs (w ++ c :: r)), .string (bs [c])] H (fun v H' => v = .int .i64 w.length ∧ H' = H) := by
  refine ac_of Tryd.func89 rfl rfl rfl ?_
  refine aw_seq_region ?_
  refine sr_as ?_
  refine sr_nil ?_
  refine aw_kp [0, 1, 4] ?_
  refine aw_seq_region ?_
  refine sr_mv ?_
  refine sr_mv ?_
  refine sr_d rfl (wtd_none rfl) rfl (opS_call rfl rfl rfl rfl cl112 (index0_s w r c hw _)) ?_
  rintro _ H ⟨rfl, rfl⟩
  refine sr_as ?_
  refine sr_nil ?_
  refine aw_kp [4] ?_
  refine aw_ret ?_
  show ∃ v H2, ResV _ _ _ _ _ _ v ∧ Sub H2 _ ∧ _
  exact ⟨_, H, resV rfl (.cons rfl .nil), (by repeat (first | exact Sub.refl _ | apply Sub.drop)), ⟨rfl, rfl⟩⟩
set_option maxRecDepth 100000 in
set_option maxHeartbeats 400000 in
theorem count_s (l : List UInt8) (c : UInt8) (H : SHeap) : AC Tryd.prog W0 88 [.string (bs l), .string (bs [c])] H (fun v H' => v = .int .i64 (cntB c l : Nat) ∧ H' = H) := by
  have hc1 : ([c] : List UInt8).length = 1 := rfl
  refine ac_of Tryd.func88 rfl rfl rfl ?_
  refine aw_seq_region ?_
  refine sr_as ?_
  refine sr_nil ?_
  refine aw_kp [0, 1, 4] ?_
  refine aw_seq ?_
  refine aw_seq_region ?_
  refine sr_mv ?_
  refine sr_rd (x_lenB Tryd.underlying9 rfl) ?_
  refine sr_c (x_eq rfl rfl) (fun h1 => absurd h1 (by first | omega | decide)) (fun h1 => ?_)
  refine sr_nil ?_
  refine aw_kp [0, 1, 4, 9] ?_
  refine aw_false rfl ?_
  refine aw_skip ?_
  show AW _ _ _ _ _ _ _
  refine aw_seq ?_
  refine aw_seq_region ?_
  refine sr_mv ?_
  refine sr_rd (x_lenB Tryd.underlying9 rfl) ?_
  refine sr_c (x_eq rfl rfl) (fun h2 => ?_) (fun h2 => absurd (by first | omega | decide) h2)
  refine sr_nil ?_
  refine aw_kp [0, 1, 4, 15] ?_
  refine aw_true rfl ?_
  refine aw_seq_region ?_
  refine sr_mv ?_
  refine sr_mv ?_
  refine sr_rd (x_indexB 0 Tryd.underlying9 rfl rfl (by first | rfl | omega) rfl) ?_
  refine sr_rd (x_extern (fn := Tryd.f111) (v := .int .i64 (cntB c l : Nat)) rfl rfl rfl Tryd.func111 (by kernel_rfl) (by kernel_rfl) exn111 exf111 (fun _ => rd_count)) ?_
  refine sr_as ?_
  refine sr_nil ?_
  refine aw_kp [0, 1, 4] ?_
  refine aw_ret ?_
  show ∃ v H2, ResV _ _ _ _ _ _ v ∧ Sub H2 _ ∧ _
  exact ⟨_, H, resV rfl (.cons rfl .nil), (by repeat (first | exact Sub.refl _ | apply Sub.drop)), ⟨rfl, rfl⟩⟩
set_option maxRecDepth 100000 in
set_option maxHeartbeats 1000000 in
theorem gsplit_s (l : List UInt8) (c : UInt8) (hl : l.length ≤ 1000000) (H : SHeap) : AC Tryd.prog W0 74 [.string (bs l), .string (bs [c]), .int .i64 0, .int .i64 (-1)] H (fun v H' => ∃ a cap E, v = .slice a (spl c l).length cap ∧ OwnVec 1 9 (.slice a (spl c l).length cap) (spl c l).length ((spl c l).flatMap strC) E ∧ H' = E ++ H) := by
  have hc1 : ([c] : List UInt8).length = 1 := rfl
  have hcl := cntB_le c l
  have hsl := spl_len (c := c) (l := l)
  refine ac_of Tryd.func74 rfl rfl rfl ?_
  refine aw_seq_region ?_
  refine sr_as ?_
  refine sr_nil ?_
  refine aw_kp [0, 1, 2, 3, 8] ?_
  refine aw_seq ?_
  refine aw_seq_region ?_
  refine sr_mv ?_
  refine sr_c (x_eq rfl rfl) (fun h1 => absurd h1 (by first | omega | decide)) (fun h1 => ?_)
  refine sr_nil ?_
  refine aw_kp [0, 1, 2, 3, 8, 13] ?_
  refine aw_false rfl ?_
  refine aw_skip ?_
  show AW _ _ _ _ _ _ _
  refine aw_seq ?_
  refine aw_seq_region ?_
  refine sr_mv ?_
  refine sr_c (x_eqB rfl rfl) (fun h2 => absurd h2 (by exact fun h => by cases h)) (fun h2 => ?_)
  refine sr_nil ?_
  refine aw_kp [0, 1, 2, 3, 8, 15] ?_
  refine aw_false rfl ?_
  refine aw_skip ?_
  show AW _ _ _ _ _ _ _
  refine aw_seq ?_
  refine aw_seq_region ?_
  refine sr_mv ?_
  refine sr_c (x_lt rfl rfl) (fun h3 => ?_) (fun h3 => absurd (by first | omega | decide) h3)
  refine sr_nil ?_
  refine aw_kp [0, 1, 2, 3, 8, 20] ?_
  refine aw_true rfl ?_
  refine aw_region ?_
  refine sr_mv ?_
  refine sr_mv ?_
  refine sr_d rfl (wtd_none rfl) rfl (opS_call rfl rfl rfl rfl cl88 (count_s l c _)) ?_
  rintro _ H ⟨rfl, rfl⟩
  refine sr_rd (x_add' rfl rfl (i64w (by omega) (by omega))) ?_
  refine sr_as ?_
  refine sr_nil ?_
  show AW _ _ _ _ _ _ _
  refine aw_seq_region ?_
  refine sr_mv ?_
  refine sr_mv ?_
  refine sr_rd (x_lenB Tryd.underlying9 rfl) ?_
  refine sr_rd (x_add' rfl rfl (i64w (by omega) (by omega))) ?_
  refine sr_rd (x_cast (u := .int .i64 (((cntB c l + 1) : Nat) : Int)) (x_min rfl rfl) (by congr 1; omega)) ?_
  refine sr_as ?_
  refine sr_nil ?_
  refine aw_kp [0, 1, 2, 3, 8] ?_
  refine aw_seq_region ?_
  refine sr_mv ?_
  refine sr_new rfl (wtd_none rfl) rfl (x_makeSlice Tryd.underlying49 sz9 zr9 rfl by9 rfl rfl (by omega) (by omega) (by omega)) ?_
  intro r8_1 hr8_1 gr8_1
  refine sr_as ?_
  refine sr_nil ?_
  refine aw_kp [0, 1, 2, 3, 8, 9] ?_
  refine aw_seq_region ?_
  refine sr_mv ?_
  refine sr_rd (x_cast (u := .int .i64 ((cntB c l : Nat) : Int)) (x_sub' rfl rfl (i64w (by omega) (by omega))) (by congr 1; omega)) ?_
  refine sr_as ?_
  refine sr_nil ?_
  refine aw_kp [0, 1, 2, 3, 8, 9] ?_
  refine aw_seq_region ?_
  refine sr_as ?_
  refine sr_nil ?_
  refine aw_kp [0, 1, 2, 3, 8, 9, 10] ?_
  refine aw_seq ?_
  refine aw_block ?_
  refine aw_loop (ι := SpG) (fun s => spl c l = s.dn ++ spl c s.r ∧ s.dn.length + cntB c s.r = cntB c l ∧ s.r.length ≤ l.length) (fun s => [(0, .string (bs s.r)), (1, .string (bs [c])), (2, .int .i64 0), (3, .int .i64 (cntB c l : Nat)), (8, .slice none 0 0), (9, .slice (some ⟨r8_1, 0, none⟩) (cntB c l + 1) (cntB c l + 1)), (10, .int .i64 s.dn.length)]) (fun s => (r8_1, .cells ((s.dn).flatMap strC ++ List.replicate ((cntB c l + 1) - (s.dn.length)) (Value.string .empty)).toArray 9 (0, 0)) :: H) (fun s => cntB c s.r) ⟨[], l⟩ (⟨rfl, by simp, Nat.le_refl _⟩) KeepF.auto (Sub.refl _) ?_
  intro s hs9
  obtain ⟨dn, r⟩ := s
  dsimp only at hs9 ⊢
  obtain ⟨hsp, hcn, hrl⟩ := hs9
  refine aw_seq ?_
  refine aw_seq_region ?_
  refine sr_mv ?_
  refine sr_mv ?_
  refine sr_c (x_lt rfl rfl) (fun h4 => ?_) (fun h4 => ?_)
  · refine sr_nil ?_
    refine aw_kp [0, 1, 2, 3, 8, 9, 10, 34, 35, 36] ?_
    refine aw_true rfl ?_
    refine aw_skip ?_
    show AW _ _ _ _ _ _ _
    refine aw_block ?_
    refine aw_seq_region ?_
    obtain ⟨w, r2, rfl, hw⟩ := find_ex (show c ∈ r from cnt_mem (by omega))
    rw [spl_find hw] at hsp
    rw [List.length_append, List.length_cons] at hrl
    refine sr_mv ?_
    refine sr_mv ?_
    refine sr_d rfl (wtd_none rfl) rfl (opS_call rfl rfl rfl rfl cl89 (index_s w r2 c hw _)) ?_
    rintro _ H9 ⟨rfl, rfl⟩
    refine sr_as ?_
    refine sr_nil ?_
    refine aw_kp [0, 1, 2, 3, 8, 9, 10, 11, 34, 35, 36, 37, 38, 39] ?_
    refine aw_seq ?_
    refine aw_seq_region ?_
    refine sr_mv ?_
    refine sr_c (x_lt rfl rfl) (fun h5 => absurd h5 (by first | omega | decide)) (fun h5 => ?_)
    refine sr_nil ?_
    refine aw_kp [0, 1, 2, 3, 8, 9, 10, 11, 34, 35, 36, 37, 38, 39, 40, 41] ?_
    refine aw_false rfl ?_
    refine aw_skip ?_
    show AW _ _ _ _ _ _ _
    refine aw_seq_region ?_
    refine sr_mv ?_
    refine sr_mv ?_
    refine sr_mv ?_
    refine sr_mv ?_
    refine sr_mv ?_
    refine sr_rd (x_add' rfl rfl (i64w (by omega) (by omega))) ?_
    refine sr_rd (x_cast (u := .string (bs w)) (x_sliceHiB w.length Tryd.underlying9 rfl rfl (by omega) (by rw [List.length_append]; omega)) (by rw [List.take_left' rfl])) ?_
    refine sr_rd (x_indexAddrN (dn.length) Tryd.underlying49 sz9 rfl rfl rfl (by omega) (by omega)) ?_
    refine sr_x0 rfl (wtd_none rfl) (x_store sz9 rfl rfl rfl rfl rfl Repl.auto (spl_fill (by omega))) ?_
    refine sr_nil ?_
    refine aw_kp [0, 1, 2, 3, 8, 9, 10, 11, 34, 35, 36, 37, 38, 39, 40, 41, 42, 43, 44, 45, 46, 47, 48, 49] ?_
    refine aw_seq_region ?_
    refine sr_mv ?_
    refine sr_mv ?_
    refine sr_mv ?_
    refine sr_rd (x_lenB Tryd.underlying9 rfl) ?_
    refine sr_rd (x_add' rfl rfl (i64w (by omega) (by omega))) ?_
    refine sr_rd (x_cast (u := .string (bs r2)) (x_sliceLoB (w.length + 1) Tryd.underlying9 rfl rfl (by omega) (by rw [List.length_append, List.length_cons]; omega)) (by rw [drop_mid])) ?_
    refine sr_as ?_
    refine sr_nil ?_
    refine aw_kp [0, 1, 2, 3, 8, 9, 10, 11, 34, 35, 36, 37, 38, 39, 40, 41, 42, 43, 44, 45, 46, 47, 48, 49, 50, 51, 52, 53, 54, 55] ?_
    refine aw_region ?_
    refine sr_mv ?_
    refine sr_rd (x_add' rfl rfl (i64w (by omega) (by omega))) ?_
    refine sr_as ?_
    refine sr_nil ?_
    show ∃ s', _ ∧ _ ∧ _ ∧ _
    exact ⟨⟨dn ++ [w], r2⟩, ⟨by dsimp only; rw [hsp]; simp, by dsimp only; rw [List.length_append, List.length_singleton]; rw [cnt_mid hw] at hcn; omega, by dsimp only; omega⟩, (by dsimp only; rw [cnt_mid hw]; omega), (by dsimp only; rw [List.length_append, List.length_singleton]; exact KeepF.auto), (by dsimp only; rw [List.length_append, List.length_singleton]; exact Sub.autoP)⟩
  · refine sr_nil ?_
    refine aw_kp [0, 1, 2, 3, 8, 9, 10, 34, 35, 36] ?_
    refine aw_false rfl ?_
    refine aw_exit ?_
    show AW _ _ _ _ _ _ _
    refine aw_seq_region ?_
    have hnr : c ∉ r := cnt_no (by omega)
    refine sr_mv ?_
    refine sr_mv ?_
    refine sr_mv ?_
    refine sr_rd (x_indexAddrN (dn.length) Tryd.underlying49 sz9 rfl rfl rfl (by omega) (by omega)) ?_
    refine sr_x0 rfl (wtd_none rfl) (x_store sz9 rfl rfl rfl rfl rfl Repl.auto (spl_fill (by omega))) ?_
    refine sr_nil ?_
    refine aw_kp [8, 9, 10] ?_
    refine aw_seq_region ?_
    refine sr_mv ?_
    refine sr_mv ?_
    refine sr_rd (x_add' rfl rfl (i64w (by omega) (by omega))) ?_
    refine sr_rd (x_sliceHiK (dn.length + 1) Tryd.underlying49 sz9 rfl rfl (by omega) (by omega)) ?_
    refine sr_as ?_
    refine sr_nil ?_
    refine aw_kp [8] ?_
    refine aw_ret ?_
    show ∃ v H2, ResV _ _ _ _ _ _ v ∧ Sub H2 _ ∧ _
    (rw [spl_none hnr] at hsp; rw [hsp]; exact ⟨_, (r8_1, .cells (((dn ++ [r])).flatMap strC ++ List.replicate ((cntB c l + 1) - (dn.length + 1)) (Value.string .empty)).toArray 9 (0, 0)) :: H, resV rfl (.cons rfl .nil), Sub.autoP, some ⟨r8_1, 0, none⟩, (cntB c l + 1), [(r8_1, .cells (((dn ++ [r])).flatMap strC ++ List.replicate ((cntB c l + 1) - (dn.length + 1)) (Value.string .empty)).toArray 9 (0, 0))], by rw [List.length_append]; rfl, (by rw [List.length_append]; exact .mk (by rw [flat_len (n := 1) (fun _ => rfl), List.length_append]) (by rw [List.length_replicate]; simp only [List.length_singleton]; omega) (by simp only [List.length_singleton]; omega) (by omega)), rfl⟩)
set_option maxRecDepth 100000 in
set_option maxHeartbeats 400000 in
theorem split_s (l : List UInt8) (c : UInt8) (hl : l.length ≤ 1000000) (H : SHeap) : AC Tryd.prog W0 51 [.string (bs l), .string (bs [c])] H (fun v H' => ∃ a cap E, v = .slice a (spl c l).length cap ∧ OwnVec 1 9 (.slice a (spl c l).length cap) (spl c l).length ((spl c l).flatMap strC) E ∧ H' = E ++ H) := by
  refine ac_of Tryd.func51 rfl rfl rfl ?_
  refine aw_seq_region ?_
  refine sr_as ?_
  refine sr_nil ?_
  refine aw_kp [0, 1, 4] ?_
  refine aw_seq_region ?_
  refine sr_mv ?_
  refine sr_mv ?_
  refine sr_d rfl (wtd_none rfl) rfl (opS_call rfl rfl rfl rfl cl74 (gsplit_s l c hl _)) ?_
  rintro _ _ ⟨a, cap, E, rfl, V, rfl⟩
  refine sr_as ?_
  refine sr_nil ?_
  refine aw_kp [4] ?_
  refine aw_ret ?_
  show ∃ v H2, ResV _ _ _ _ _ _ v ∧ Sub H2 _ ∧ _
  exact ⟨_, (E ++ H), resV rfl (.cons rfl .nil), (by repeat (first | exact Sub.refl _ | apply Sub.drop)), ⟨a, cap, E, rfl, V, rfl⟩⟩
end
end Go.Proofs.YtbcajgkaepihfaaDoor
