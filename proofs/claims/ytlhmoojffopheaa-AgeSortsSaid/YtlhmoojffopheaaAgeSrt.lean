/- Jobs are sorted by their points at any time: what the library's sorting comes to. -/
import Derived.Test.YtlhmoojffopheaaAge
import Derived.Test.YtlhmoojffopheaaSymPlace
namespace Go.Proofs.Ytlhmoojffopheaa
open Go.Proofs.Ytlhmoojffopheaa.Sym
open Go.RowKit (Below)
set_option linter.unusedVariables false
set_option linter.unusedSimpArgs false
structure Aged where
  job : Job
  since : Int
@[reducible] def Aged.cells (j : Aged) : List Value := [.int .i64 j.job.id, .int .i64 j.job.user, .int .i64 j.job.width, .int .i64 j.job.limit, .int .i64 j.job.prio, .int .i64 j.job.state, .int .i64 j.job.start, .int .i64 j.job.fin, .int .i64 j.job.plan, .int .u64 j.job.nodes, .int .i64 j.since]
@[reducible] def Aged.v (j : Aged) : Value := .agg (Aged.cells j).toArray
def Aged.Wf (j : Aged) : Prop := j.job.Wf ∧ (IntKind.min .i64 ≤ j.since ∧ j.since ≤ IntKind.max .i64)
structure WA where
  a : Aged
  wf : a.Wf
@[reducible] def WA.cells (w : WA) : List Value := w.a.cells
@[reducible] def WA.v (w : WA) : Value := .agg (WA.cells w).toArray
instance : Inhabited WA := ⟨⟨⟨⟨0, 0, 0, 0, 0, 0, 0, 0, 0, 0⟩, 0⟩, by unfold Aged.Wf Job.Wf; decide⟩⟩
theorem all_oneA (xs : List WA) : (xs.flatMap WA.cells).all oneCell = true := all_flat (fun _ => rfl) xs
def satSub (a b : Int) : Int := max (min (max a 0) 1152921504606846976 - min (max b 0) 1152921504606846976) 0
def pts (r : Rule) (now : Int) (w : WA) : Int := (ofP r w.a.job (satSub now w.a.since)).wait + (ofP r w.a.job (satSub now w.a.since)).width + (ofP r w.a.job (satSub now w.a.since)).short + (ofP r w.a.job (satSub now w.a.since)).prio
def cmpA (r : Rule) (now : Int) (x y : WA) : Int := firstNZ [cmpI (pts r now y) (pts r now x), cmpI x.a.job.id y.a.job.id]
theorem cmpA_lt (r : Rule) (now : Int) (x y : WA) : cmpA r now x y < 0 ↔ pts r now y < pts r now x ∨ (pts r now x = pts r now y ∧ x.a.job.id < y.a.job.id) := by
  unfold cmpA firstNZ firstNZ firstNZ cmpI
  (repeat split) <;> omega
theorem swoA (r : Rule) (now : Int) : Swo (cmpA r now) := ⟨fun x => by rw [cmpA_lt]; omega, fun {x y z} => by rw [cmpA_lt, cmpA_lt, cmpA_lt]; omega, fun {x y z} => by rw [cmpA_lt, cmpA_lt, cmpA_lt]; omega⟩
structure RkG where
  k : Nat
  L : List Value
/-- The ranks: i of them done, the i-th so far p. -/
def RkI (f : Nat → Int) (n i : Nat) (p : Int) (L : List Value) : Prop := L.length = n ∧ ∀ q, q < n → L[q]? = some (.int .i64 (if q < i then f q else if q = i then p else 0))
theorem RkI.start {f : Nat → Int} {n : Nat} : RkI f n 0 0 (List.replicate n (.int .i64 0)) := ⟨List.length_replicate, fun q hq => by
  rw [List.getElem?_replicate, if_pos hq, if_neg (by omega)]; split <;> rfl⟩
theorem RkI.set {f : Nat → Int} {n i : Nat} {p p' : Int} {L : List Value} (h : RkI f n i p L) (hi : i < n) : RkI f n i p' (L.set i (.int .i64 p')) := ⟨by rw [List.length_set]; exact h.1, fun q hq => by
  rw [List.getElem?_set]
  by_cases e : i = q
  · subst e; rw [if_pos rfl, if_pos (by rw [h.1]; exact hi), if_neg (by omega), if_pos rfl]
  · rw [if_neg e, h.2 q hq]
    by_cases h1 : q < i
    · rw [if_pos h1, if_pos h1]
    · rw [if_neg h1, if_neg h1, if_neg (by omega), if_neg (by omega)]⟩
theorem RkI.next {f : Nat → Int} {n i : Nat} {p : Int} {L : List Value} (h : RkI f n i p L) (hp : f i = p) : RkI f n (i + 1) 0 L := ⟨h.1, fun q hq => by
  rw [h.2 q hq]
  by_cases h1 : q < i
  · rw [if_pos h1, if_pos (by omega)]
  · by_cases h2 : q = i
    · subst h2; rw [if_neg h1, if_pos rfl, if_pos (by omega), hp]
    · rw [if_neg h1, if_neg h2, if_neg (by omega)]; split <;> rfl⟩
theorem RkI.at_ {f : Nat → Int} {n i : Nat} {p : Int} {L : List Value} (h : RkI f n i p L) (hi : i < n) : L[i]? = some (.int .i64 p) := by
  rw [h.2 i hi, if_neg (by omega), if_pos rfl]
theorem RkI.old {f : Nat → Int} {n q : Nat} {p : Int} {L : List Value} (h : RkI f n n p L) (hq : q < n) : L[q]? = some (.int .i64 (f q)) := by
  rw [h.2 q hq, if_pos hq]
def rkF {α : Type} [Inhabited α] (c : α → α → Int) (xs : List α) (i : Nat) : Int := (pos c xs (gd xs i) i xs.length : Nat)
theorem pos_big {α : Type} {c : α → α → Int} {xs : List α} {e : α} {i k : Nat} (hi : i < xs.length) (hk : xs.length ≤ k) : pos c xs e i k = pos c xs e i xs.length := by
  unfold pos
  rw [List.take_of_length_le hk, List.take_of_length_le (Nat.le_refl _), show min k i = i by omega, show min xs.length i = i by omega]
theorem rkF_pos {α : Type} [Inhabited α] {c : α → α → Int} {xs : List α} {i k : Nat} {x : α} (hx : xs[i]? = some x) (hk : xs.length ≤ k) : rkF c xs i = (pos c xs x i k : Nat) := by
  unfold rkF
  rw [gd_get hx, pos_big (get_lt hx) hk]
theorem spl_atA {cs : List Value} {i : Nat} {v : Value} (h : i < cs.length) : Spl cs (0 + (i : Int).toNat * 1) [v] (cs.set i v) := by
  have e : 0 + (i : Int).toNat * 1 = i := by omega
  rw [e]; exact spl_set h
theorem ag77 : aggOf Try.prog 77 = some true := by kernel_rfl
theorem by77 : bytesOf Try.prog 77 = some 88 := by kernel_rfl
theorem cl26 : Callable Try.prog 26 := ⟨Try.f26, Try.func26, by kernel_rfl, by kernel_rfl⟩
theorem cl50 : Callable Try.prog 50 := ⟨Try.f50, Try.func50, by kernel_rfl, by kernel_rfl⟩
theorem cl70 : Callable Try.prog 70 := ⟨Try.f70, Try.func70, by kernel_rfl, by kernel_rfl⟩
theorem cl71 : Callable Try.prog 71 := ⟨Try.f71, Try.func71, by kernel_rfl, by kernel_rfl⟩
theorem cl72 : Callable Try.prog 72 := ⟨Try.f72, Try.func72, by kernel_rfl, by kernel_rfl⟩
theorem cl76 : Callable Try.prog 76 := ⟨Try.f76, Try.func76, by kernel_rfl, by kernel_rfl⟩
theorem cl77 : Callable Try.prog 77 := ⟨Try.f77, Try.func77, by kernel_rfl, by kernel_rfl⟩
theorem cl81 : Callable Try.prog 81 := ⟨Try.f81, Try.func81, by kernel_rfl, by kernel_rfl⟩
theorem cl82 : Callable Try.prog 82 := ⟨Try.f82, Try.func82, by kernel_rfl, by kernel_rfl⟩
theorem cl84 : Callable Try.prog 84 := ⟨Try.f84, Try.func84, by kernel_rfl, by kernel_rfl⟩
theorem cl86 : Callable Try.prog 86 := ⟨Try.f86, Try.func86, by kernel_rfl, by kernel_rfl⟩
theorem fd77_0 : fldOf Try.prog 77 0 = some (0, 28, 10) := by kernel_rfl
theorem fd77_1 : fldOf Try.prog 77 1 = some (10, 2, 1) := by kernel_rfl
theorem sz77 : szOf Try.prog 77 = some 11 := by kernel_rfl
theorem zr77 : zeroOf Try.prog 77 = some (.agg #[.int .i64 0, .int .i64 0, .int .i64 0, .int .i64 0, .int .i64 0, .int .i64 0, .int .i64 0, .int .i64 0, .int .i64 0, .int .u64 0, .int .i64 0]) := by kernel_rfl
section
variable {W0 : World}
set_option maxRecDepth 100000 in
set_option maxHeartbeats 400000 in
theorem satSub_s (a b : Int) (H : SHeap) : AC Try.prog W0 72 [.int .i64 a, .int .i64 b] H (fun v H' => v = .int .i64 (satSub a b) ∧ H' = H) := by
  refine ac_of Try.func72 rfl rfl rfl ?_
  refine aw_seq_region ?_
  refine sr_x rfl (wtd_none rfl) rfl (Rd.x (x_assign rfl)) ?_
  refine sr_nil ?_
  refine aw_keep (keep_cons (t := 0) rfl (keep_cons (t := 1) rfl (keep_cons (t := 4) rfl keep_nil))) ?_
  refine aw_seq_region ?_
  refine sr_x rfl (wtd_none rfl) rfl (Rd.x (x_move rfl)) ?_
  refine sr_x rfl (wtd_none rfl) rfl (Rd.x (x_max rfl rfl)) ?_
  refine sr_x rfl (wtd_none rfl) rfl (Rd.x (x_min rfl rfl)) ?_
  refine sr_x rfl (wtd_none rfl) rfl (Rd.x (x_move rfl)) ?_
  refine sr_x rfl (wtd_none rfl) rfl (Rd.x (x_max rfl rfl)) ?_
  refine sr_x rfl (wtd_none rfl) rfl (Rd.x (x_min rfl rfl)) ?_
  refine sr_x rfl (wtd_none rfl) rfl (Rd.x (x_assign rfl)) ?_
  refine sr_x rfl (wtd_none rfl) rfl (Rd.x (x_assign rfl)) ?_
  refine sr_nil ?_
  refine aw_keep (keep_cons (t := 0) rfl (keep_cons (t := 1) rfl (keep_cons (t := 4) rfl keep_nil))) ?_
  refine aw_seq_region ?_
  refine sr_x rfl (wtd_none rfl) rfl (Rd.x (x_move rfl)) ?_
  refine sr_x rfl (wtd_none rfl) rfl (Rd.x (x_move rfl)) ?_
  refine sr_x rfl (wtd_none rfl) rfl (Rd.x (x_sub' rfl rfl (i64w (by omega) (by omega)))) ?_
  refine sr_x rfl (wtd_none rfl) rfl (Rd.x (x_max rfl rfl)) ?_
  refine sr_x rfl (wtd_none rfl) rfl (Rd.x (x_assign rfl)) ?_
  refine sr_nil ?_
  refine aw_keep (keep_cons (t := 4) rfl keep_nil) ?_
  refine aw_ret ?_
  show ∃ v H2, ResV _ _ _ _ _ _ v ∧ Sub H2 _ ∧ _
  exact ⟨_, H, resV rfl (.cons rfl .nil), (by repeat (first | exact Sub.refl _ | apply Sub.drop)), ⟨rfl, rfl⟩⟩
set_option maxRecDepth 100000 in
set_option maxHeartbeats 400000 in
theorem points_s (w : WA) (r : Rule) (now : Int) (H : SHeap) : AC Try.prog W0 50 [WA.v w, r.v, .int .i64 now] H (fun v H' => v = .int .i64 (pts r now w) ∧ H' = H) := by
  refine ac_of Try.func50 rfl rfl rfl ?_
  refine aw_seq_region ?_
  refine sr_new rfl (wtd_none rfl) rfl (x_box rfl rfl) ?_
  intro r0_0 hr0_0 gr0_0
  refine sr_new rfl (wtd_none rfl) rfl (x_box rfl rfl) ?_
  intro r0_1 hr0_1 gr0_1
  refine sr_x rfl (wtd_none rfl) rfl (Rd.x (x_assign rfl)) ?_
  refine sr_nil ?_
  refine aw_keep (keep_cons (t := 2) rfl (keep_cons (t := 3) rfl (keep_cons (t := 4) rfl (keep_cons (t := 6) rfl keep_nil)))) ?_
  refine aw_seq_dr ⟨_, 10, 16, [[], [], [1], [], [], [4], [3, 4, 5], [0, 1, 2, 3, 4, 5, 6], [0, 1, 2, 3, 4, 5, 6, 7], [0, 1, 2, 3, 4, 5, 6, 7, 8]], [.mem, .light, .mem, .light, .light, .mem, .call, .call, .call, .light]⟩ (by kernel_rfl) rfl rfl mix ?_
  refine dr_mem0 rfl rfl (wtd_none rfl) (x_loadN ag42 sz42 rfl (cells_ext (by repeat (first | exact List.mem_cons_self | apply List.mem_cons_of_mem | apply List.mem_append_right)) (by repeat (first | exact Ext.all _ | exact Ext.done | apply Ext.take | apply Ext.skip))) rfl) ?_
  refine dr_light rfl rfl (wtd_none rfl) (x_fieldAddr fd77_0 rfl) ?_
  refine dr_mem0 rfl rfl (wtd_none rfl) (x_loadN ag28 sz28 rfl (cells_ext (vs := w.a.job.cells) (n := 10) (by repeat (first | exact List.mem_cons_self | apply List.mem_cons_of_mem | apply List.mem_append_right)) (by repeat (first | exact Ext.done | apply Ext.take | apply Ext.skip))) rfl) ?_
  refine dr_light rfl rfl (wtd_none rfl) (x_move rfl) ?_
  refine dr_light rfl rfl (wtd_none rfl) (x_fieldAddr fd77_1 rfl) ?_
  refine dr_mem0 rfl rfl (wtd_none rfl) (x_load ag2 rfl (cells_ext (by repeat (first | exact List.mem_cons_self | apply List.mem_cons_of_mem | apply List.mem_append_right)) (by repeat (first | exact Ext.all _ | exact Ext.done | apply Ext.take | apply Ext.skip)))) ?_
  refine dr_callq0 rfl rfl (wtd_none rfl) (opS_F rfl rfl rfl rfl cl72 ((satSub_s _ _ _))) (⟨_, rfl⟩) ?_
  rintro _ rfl
  refine dr_callq0 rfl rfl (wtd_none rfl) (opS_F rfl rfl rfl rfl cl23 ((of_s r w.a.job _ _ w.wf.1 (by unfold satSub; omega)))) (⟨_, rfl⟩) ?_
  rintro _ rfl
  refine dr_callq0 rfl rfl (wtd_none rfl) (opS_F rfl rfl rfl rfl cl27 ((sum_s (ofP r w.a.job (satSub now w.a.since)) _))) (⟨_, rfl⟩) ?_
  rintro _ rfl
  refine dr_light rfl rfl (wtd_none rfl) (x_assign rfl) ?_
  refine dr_nil0 ?_
  refine aw_keep (keep_cons (t := 6) rfl keep_nil) ?_
  refine aw_ret ?_
  show ∃ v H2, ResV _ _ _ _ _ _ v ∧ Sub H2 _ ∧ _
  exact ⟨_, H, resV rfl (.cons rfl .nil), (by repeat (first | exact Sub.refl _ | apply Sub.drop | apply Sub.dropE)), ⟨congrArg (Value.int .i64) (ofP_sum (ofP_ok _ _ _)), rfl⟩⟩
set_option maxRecDepth 100000 in
set_option maxHeartbeats 400000 in
theorem lawpts_s (w : WA) (r : Rule) (now : Int) (H : SHeap) : AC Try.prog W0 49 [r.v, WA.v w, .int .i64 now] H (fun v H' => v = .int .i64 (pts r now w) ∧ H' = H) := by
  have hok := ofP_ok r w.a.job (satSub now w.a.since)
  obtain ⟨z1, z2, z3, z4⟩ := hok
  refine ac_of Try.func49 rfl rfl rfl ?_
  refine aw_seq_region ?_
  refine sr_new rfl (wtd_none rfl) rfl (x_box rfl rfl) ?_
  intro r0_0 hr0_0 gr0_0
  refine sr_new rfl (wtd_none rfl) rfl (x_box rfl rfl) ?_
  intro r0_1 hr0_1 gr0_1
  refine sr_x rfl (wtd_none rfl) rfl (Rd.x (x_assign rfl)) ?_
  refine sr_nil ?_
  refine aw_keep (keep_cons (t := 2) rfl (keep_cons (t := 3) rfl (keep_cons (t := 4) rfl (keep_cons (t := 6) rfl keep_nil)))) ?_
  refine aw_seq_dr ⟨_, 10, 27, [[], [], [1], [], [], [4], [3, 4, 5], [0, 1, 2, 3, 4, 5, 6], [], [0, 1, 2, 3, 4, 5, 6, 7, 8]], [.mem, .light, .mem, .light, .light, .mem, .call, .call, .alloc, .loc 8]⟩ (by kernel_rfl) rfl rfl mix ?_
  refine dr_mem0 rfl rfl (wtd_none rfl) (x_loadN ag42 sz42 rfl (cells_ext (by repeat (first | exact List.mem_cons_self | apply List.mem_cons_of_mem | apply List.mem_append_right)) (by repeat (first | exact Ext.all _ | exact Ext.done | apply Ext.take | apply Ext.skip))) rfl) ?_
  refine dr_light rfl rfl (wtd_none rfl) (x_fieldAddr fd77_0 rfl) ?_
  refine dr_mem0 rfl rfl (wtd_none rfl) (x_loadN ag28 sz28 rfl (cells_ext (vs := w.a.job.cells) (n := 10) (by repeat (first | exact List.mem_cons_self | apply List.mem_cons_of_mem | apply List.mem_append_right)) (by repeat (first | exact Ext.done | apply Ext.take | apply Ext.skip))) rfl) ?_
  refine dr_light rfl rfl (wtd_none rfl) (x_move rfl) ?_
  refine dr_light rfl rfl (wtd_none rfl) (x_fieldAddr fd77_1 rfl) ?_
  refine dr_mem0 rfl rfl (wtd_none rfl) (x_load ag2 rfl (cells_ext (by repeat (first | exact List.mem_cons_self | apply List.mem_cons_of_mem | apply List.mem_append_right)) (by repeat (first | exact Ext.all _ | exact Ext.done | apply Ext.take | apply Ext.skip)))) ?_
  refine dr_callq0 rfl rfl (wtd_none rfl) (opS_F rfl rfl rfl rfl cl72 ((satSub_s _ _ _))) (⟨_, rfl⟩) ?_
  rintro _ rfl
  refine dr_callq0 rfl rfl (wtd_none rfl) (opS_F rfl rfl rfl rfl cl26 ((of2_s r w.a.job _ _ w.wf.1 (by unfold satSub; omega)))) (⟨_, rfl⟩) ?_
  rintro _ rfl
  refine dr_alloc rfl rfl (wtd_none rfl) (x_alloc zr44 rfl) ?_
  intro r1_8 hr1_8 gr1_8
  refine dr_loc rfl rfl rfl (wtd_none rfl) (x_store sz44 rfl rfl rfl rfl rfl (by repeat (first | exact Repl.here | apply Repl.there | apply Repl.app)) (by repeat (first | exact Spl.done | exact Spl.all rfl | apply Spl.put | apply Spl.skip))) (by first | rfl | simp [keys_append, keys_cons]) ?_
  refine dr_nil (E := [(r1_8, .cells (Part.cells (ofP r w.a.job (satSub now w.a.since))).toArray 44 (0, 0))]) rfl ?_
  refine aw_keep (keep_cons (t := 6) rfl (keep_cons (t := 7) rfl keep_nil)) ?_
  refine aw_seq_region ?_
  refine sr_x rfl (wtd_none rfl) rfl (Rd.x (x_fieldAddr fd44_0 rfl)) ?_
  refine sr_x rfl (wtd_none rfl) rfl (Rd.x (x_load ag2 rfl (cells_ext (by repeat (first | exact List.mem_cons_self | apply List.mem_cons_of_mem | apply List.mem_append_right)) (by repeat (first | exact Ext.all _ | exact Ext.done | apply Ext.take | apply Ext.skip))))) ?_
  refine sr_x rfl (wtd_none rfl) rfl (Rd.x (x_fieldAddr fd44_1 rfl)) ?_
  refine sr_x rfl (wtd_none rfl) rfl (Rd.x (x_load ag2 rfl (cells_ext (by repeat (first | exact List.mem_cons_self | apply List.mem_cons_of_mem | apply List.mem_append_right)) (by repeat (first | exact Ext.all _ | exact Ext.done | apply Ext.take | apply Ext.skip))))) ?_
  refine sr_x rfl (wtd_none rfl) rfl (Rd.x (x_add' rfl rfl (i64w (by omega) (by omega)))) ?_
  refine sr_x rfl (wtd_none rfl) rfl (Rd.x (x_fieldAddr fd44_2 rfl)) ?_
  refine sr_x rfl (wtd_none rfl) rfl (Rd.x (x_load ag2 rfl (cells_ext (by repeat (first | exact List.mem_cons_self | apply List.mem_cons_of_mem | apply List.mem_append_right)) (by repeat (first | exact Ext.all _ | exact Ext.done | apply Ext.take | apply Ext.skip))))) ?_
  refine sr_x rfl (wtd_none rfl) rfl (Rd.x (x_add' rfl rfl (i64w (by omega) (by omega)))) ?_
  refine sr_x rfl (wtd_none rfl) rfl (Rd.x (x_fieldAddr fd44_3 rfl)) ?_
  refine sr_x rfl (wtd_none rfl) rfl (Rd.x (x_load ag2 rfl (cells_ext (by repeat (first | exact List.mem_cons_self | apply List.mem_cons_of_mem | apply List.mem_append_right)) (by repeat (first | exact Ext.all _ | exact Ext.done | apply Ext.take | apply Ext.skip))))) ?_
  refine sr_x rfl (wtd_none rfl) rfl (Rd.x (x_add' rfl rfl (i64w (by omega) (by omega)))) ?_
  refine sr_x rfl (wtd_none rfl) rfl (Rd.x (x_assign rfl)) ?_
  refine sr_nil ?_
  refine aw_keep (keep_cons (t := 6) rfl keep_nil) ?_
  refine aw_ret ?_
  show ∃ v H2, ResV _ _ _ _ _ _ v ∧ Sub H2 _ ∧ _
  exact ⟨_, H, resV rfl (.cons rfl .nil), (by repeat (first | exact Sub.refl _ | apply Sub.drop | apply Sub.dropE)), ⟨rfl, rfl⟩⟩
set_option maxRecDepth 100000 in
set_option maxHeartbeats 400000 in
theorem isNaN64_s (x : Int) (H : SHeap) : AC Try.prog W0 77 [.int .i64 x] H (fun v H' => v = .bool false ∧ H' = H) := by
  refine ac_of Try.func77 rfl rfl rfl ?_
  refine aw_seq_region ?_
  refine sr_x rfl (wtd_none rfl) rfl (Rd.x (x_assign rfl)) ?_
  refine sr_nil ?_
  refine aw_keep (keep_cons (t := 0) rfl (keep_cons (t := 2) rfl keep_nil)) ?_
  refine aw_seq_region ?_
  refine sr_x rfl (wtd_none rfl) rfl (Rd.x (x_move rfl)) ?_
  refine sr_x rfl (wtd_none rfl) rfl (Rd.x (x_move rfl)) ?_
  refine sr_cmp rfl (wtd_none rfl) rfl (Rd.x (x_ne rfl rfl)) (fun h1 => ?_) (fun h1 => ?_)
  · refine sr_x rfl (wtd_none rfl) rfl (Rd.x (x_assign rfl)) ?_
    refine sr_nil ?_
    refine aw_keep (keep_cons (t := 2) rfl keep_nil) ?_
    refine aw_ret ?_
    show ∃ v H2, ResV _ _ _ _ _ _ v ∧ Sub H2 _ ∧ _
    exact ⟨_, H, resV rfl (.cons rfl .nil), (by repeat (first | exact Sub.refl _ | apply Sub.drop)), (by first | exact ⟨rfl, rfl⟩ | omega)⟩
  · refine sr_x rfl (wtd_none rfl) rfl (Rd.x (x_assign rfl)) ?_
    refine sr_nil ?_
    refine aw_keep (keep_cons (t := 2) rfl keep_nil) ?_
    refine aw_ret ?_
    show ∃ v H2, ResV _ _ _ _ _ _ v ∧ Sub H2 _ ∧ _
    exact ⟨_, H, resV rfl (.cons rfl .nil), (by repeat (first | exact Sub.refl _ | apply Sub.drop)), (by first | exact ⟨rfl, rfl⟩ | omega)⟩
set_option maxRecDepth 100000 in
set_option maxHeartbeats 400000 in
theorem cmp64_s (x y : Int) (H : SHeap) : AC Try.prog W0 71 [.int .i64 x, .int .i64 y] H (fun v H' => v = .int .i64 (cmpI x y) ∧ H' = H) := by
  refine ac_of Try.func71 rfl rfl rfl ?_
  refine aw_seq_region ?_
  refine sr_x rfl (wtd_none rfl) rfl (Rd.x (x_assign rfl)) ?_
  refine sr_nil ?_
  refine aw_keep (keep_cons (t := 0) rfl (keep_cons (t := 1) rfl (keep_cons (t := 4) rfl keep_nil))) ?_
  refine aw_seq_region ?_
  refine sr_x rfl (wtd_none rfl) rfl (Rd.x (x_move rfl)) ?_
  refine sr_d rfl (wtd_none rfl) rfl (opS_call rfl rfl rfl rfl cl77 (isNaN64_s _ _)) ?_
  rintro _ H ⟨rfl, rfl⟩
  refine sr_x rfl (wtd_none rfl) rfl (Rd.x (x_assign rfl)) ?_
  refine sr_nil ?_
  refine aw_keep (keep_cons (t := 0) rfl (keep_cons (t := 1) rfl (keep_cons (t := 4) rfl (keep_cons (t := 5) rfl keep_nil)))) ?_
  refine aw_seq_region ?_
  refine sr_x rfl (wtd_none rfl) rfl (Rd.x (x_move rfl)) ?_
  refine sr_d rfl (wtd_none rfl) rfl (opS_call rfl rfl rfl rfl cl77 (isNaN64_s _ _)) ?_
  rintro _ H ⟨rfl, rfl⟩
  refine sr_x rfl (wtd_none rfl) rfl (Rd.x (x_assign rfl)) ?_
  refine sr_nil ?_
  refine aw_keep (keep_cons (t := 0) rfl (keep_cons (t := 1) rfl (keep_cons (t := 4) rfl (keep_cons (t := 5) rfl (keep_cons (t := 6) rfl keep_nil))))) ?_
  refine aw_seq ?_
  refine aw_seq_region ?_
  refine sr_x rfl (wtd_none rfl) rfl (Rd.x (x_move rfl)) ?_
  refine sr_nil ?_
  refine aw_keep (keep_cons (t := 0) rfl (keep_cons (t := 1) rfl (keep_cons (t := 4) rfl (keep_cons (t := 6) rfl (keep_cons (t := 11) rfl keep_nil))))) ?_
  refine aw_false rfl ?_
  refine aw_skip ?_
  show AW _ _ _ _ _ _ _
  refine aw_seq ?_
  refine aw_seq_region ?_
  refine sr_x rfl (wtd_none rfl) rfl (Rd.x (x_move rfl)) ?_
  refine sr_nil ?_
  refine aw_keep (keep_cons (t := 0) rfl (keep_cons (t := 1) rfl (keep_cons (t := 4) rfl (keep_cons (t := 13) rfl keep_nil)))) ?_
  refine aw_false rfl ?_
  refine aw_skip ?_
  show AW _ _ _ _ _ _ _
  refine aw_seq ?_
  refine aw_seq_region ?_
  refine sr_x rfl (wtd_none rfl) rfl (Rd.x (x_move rfl)) ?_
  refine sr_x rfl (wtd_none rfl) rfl (Rd.x (x_move rfl)) ?_
  refine sr_cmp rfl (wtd_none rfl) rfl (Rd.x (x_lt rfl rfl)) (fun h1 => ?_) (fun h1 => ?_)
  · refine sr_nil ?_
    refine aw_keep (keep_cons (t := 0) rfl (keep_cons (t := 1) rfl (keep_cons (t := 4) rfl (keep_cons (t := 16) rfl keep_nil)))) ?_
    refine aw_true rfl ?_
    refine aw_seq_region ?_
    refine sr_x rfl (wtd_none rfl) rfl (Rd.x (x_assign rfl)) ?_
    refine sr_nil ?_
    refine aw_keep (keep_cons (t := 0) rfl (keep_cons (t := 1) rfl (keep_cons (t := 4) rfl keep_nil))) ?_
    refine aw_ret ?_
    show ∃ v H2, ResV _ _ _ _ _ _ v ∧ Sub H2 _ ∧ _
    exact ⟨_, H, resV rfl (.cons rfl .nil), (by repeat (first | exact Sub.refl _ | apply Sub.drop)), ⟨congrArg (Value.int .i64) (by unfold cmpI; (repeat split) <;> omega), rfl⟩⟩
  · refine sr_nil ?_
    refine aw_keep (keep_cons (t := 0) rfl (keep_cons (t := 1) rfl (keep_cons (t := 4) rfl (keep_cons (t := 16) rfl keep_nil)))) ?_
    refine aw_false rfl ?_
    refine aw_skip ?_
    show AW _ _ _ _ _ _ _
    refine aw_seq ?_
    refine aw_seq_region ?_
    refine sr_x rfl (wtd_none rfl) rfl (Rd.x (x_move rfl)) ?_
    refine sr_x rfl (wtd_none rfl) rfl (Rd.x (x_move rfl)) ?_
    refine sr_cmp rfl (wtd_none rfl) rfl (Rd.x (x_gt rfl rfl)) (fun h2 => ?_) (fun h2 => ?_)
    · refine sr_nil ?_
      refine aw_keep (keep_cons (t := 4) rfl (keep_cons (t := 19) rfl keep_nil)) ?_
      refine aw_true rfl ?_
      refine aw_seq_region ?_
      refine sr_x rfl (wtd_none rfl) rfl (Rd.x (x_assign rfl)) ?_
      refine sr_nil ?_
      refine aw_keep (keep_cons (t := 4) rfl keep_nil) ?_
      refine aw_ret ?_
      show ∃ v H2, ResV _ _ _ _ _ _ v ∧ Sub H2 _ ∧ _
      exact ⟨_, H, resV rfl (.cons rfl .nil), (by repeat (first | exact Sub.refl _ | apply Sub.drop)), ⟨congrArg (Value.int .i64) (by unfold cmpI; (repeat split) <;> omega), rfl⟩⟩
    · refine sr_nil ?_
      refine aw_keep (keep_cons (t := 4) rfl (keep_cons (t := 19) rfl keep_nil)) ?_
      refine aw_false rfl ?_
      refine aw_skip ?_
      show AW _ _ _ _ _ _ _
      refine aw_seq_region ?_
      refine sr_x rfl (wtd_none rfl) rfl (Rd.x (x_assign rfl)) ?_
      refine sr_nil ?_
      refine aw_keep (keep_cons (t := 4) rfl keep_nil) ?_
      refine aw_ret ?_
      show ∃ v H2, ResV _ _ _ _ _ _ v ∧ Sub H2 _ ∧ _
      exact ⟨_, H, resV rfl (.cons rfl .nil), (by repeat (first | exact Sub.refl _ | apply Sub.drop)), ⟨congrArg (Value.int .i64) (by unfold cmpI; (repeat split) <;> omega), rfl⟩⟩
set_option maxRecDepth 100000 in
set_option maxHeartbeats 400000 in
theorem ageCmp_s (q1 q2 : Nat) (r : Rule) (now : Int) (x y : WA) (H : SHeap) (hc1 : Cells W0 H q1 0 r.cells) (hc2 : Cells W0 H q2 0 [.int .i64 now]) : AC Try.prog W0 70 [WA.v x, WA.v y, .pointer (some ⟨q1, 0, none⟩), .pointer (some ⟨q2, 0, none⟩)] H (fun v H' => v = .int .i64 (cmpA r now x y) ∧ H' = H) := by
  refine ac_of Try.func70 rfl rfl rfl ?_
  refine aw_seq_region ?_
  refine sr_new rfl (wtd_none rfl) rfl (x_box rfl rfl) ?_
  intro r0_0 hr0_0 gr0_0
  refine sr_new rfl (wtd_none rfl) rfl (x_box rfl rfl) ?_
  intro r0_1 hr0_1 gr0_1
  refine sr_x rfl (wtd_none rfl) rfl (Rd.x (x_assign rfl)) ?_
  refine sr_nil ?_
  refine aw_keep (keep_cons (t := 2) rfl (keep_cons (t := 3) rfl (keep_cons (t := 4) rfl (keep_cons (t := 5) rfl (keep_cons (t := 6) rfl keep_nil))))) ?_
  refine aw_seq_dr ⟨_, 19, 25, [[], [], [], [0, 1, 2], [], [], [], [0, 1, 2, 3, 4, 5, 6], [0, 1, 2, 3, 4, 5, 6, 7], [], [9], [9, 10], [], [12], [12, 13], [0, 1, 2, 3, 4, 5, 6, 7, 8, 9, 10, 11, 12, 13, 14], [0, 1, 2, 3, 4, 5, 6, 7, 8, 9, 10, 11, 12, 13, 14, 15], [0, 1, 2, 3, 4, 5, 6, 7, 8, 9, 10, 11, 12, 13, 14, 15, 16], [0, 1, 2, 3, 4, 5, 6, 7, 8, 9, 10, 11, 12, 13, 14, 15, 16, 17]], [.mem, .mem, .mem, .call, .mem, .mem, .mem, .call, .call, .light, .light, .mem, .light, .light, .mem, .call, .alloc, .call, .light]⟩ (by kernel_rfl) rfl rfl mix ?_
  refine dr_mem0 rfl rfl (wtd_none rfl) (x_loadN ag77 sz77 rfl (cells_ext (by repeat (first | exact List.mem_cons_self | apply List.mem_cons_of_mem | apply List.mem_append_right)) (by repeat (first | exact Ext.all _ | exact Ext.done | apply Ext.take | apply Ext.skip))) rfl) ?_
  refine dr_mem0 rfl rfl (wtd_none rfl) (x_loadN ag42 sz42 rfl (Cells.mono hc1 (by repeat (first | exact Sub.refl _ | apply Sub.drop | apply Sub.dropE))) rfl) ?_
  refine dr_mem0 rfl rfl (wtd_none rfl) (x_load ag2 rfl (Cells.mono hc2 (by repeat (first | exact Sub.refl _ | apply Sub.drop | apply Sub.dropE)))) ?_
  refine dr_callq0 rfl rfl (wtd_none rfl) (opS_F rfl rfl rfl rfl cl50 ((points_s y r now _))) (⟨_, rfl⟩) ?_
  rintro _ rfl
  refine dr_mem0 rfl rfl (wtd_none rfl) (x_loadN ag77 sz77 rfl (cells_ext (by repeat (first | exact List.mem_cons_self | apply List.mem_cons_of_mem | apply List.mem_append_right)) (by repeat (first | exact Ext.all _ | exact Ext.done | apply Ext.take | apply Ext.skip))) rfl) ?_
  refine dr_mem0 rfl rfl (wtd_none rfl) (x_loadN ag42 sz42 rfl (Cells.mono hc1 (by repeat (first | exact Sub.refl _ | apply Sub.drop | apply Sub.dropE))) rfl) ?_
  refine dr_mem0 rfl rfl (wtd_none rfl) (x_load ag2 rfl (Cells.mono hc2 (by repeat (first | exact Sub.refl _ | apply Sub.drop | apply Sub.dropE)))) ?_
  refine dr_callq0 rfl rfl (wtd_none rfl) (opS_F rfl rfl rfl rfl cl50 ((points_s x r now _))) (⟨_, rfl⟩) ?_
  rintro _ rfl
  refine dr_callq0 rfl rfl (wtd_none rfl) (opS_F rfl rfl rfl rfl cl71 ((cmp64_s _ _ _))) (⟨_, rfl⟩) ?_
  rintro _ rfl
  refine dr_light rfl rfl (wtd_none rfl) (x_fieldAddr fd77_0 rfl) ?_
  refine dr_light rfl rfl (wtd_none rfl) (x_fieldAddr fd28_0 rfl) ?_
  refine dr_mem0 rfl rfl (wtd_none rfl) (x_load ag3 rfl (cells_ext (by repeat (first | exact List.mem_cons_self | apply List.mem_cons_of_mem | apply List.mem_append_right)) (by repeat (first | exact Ext.all _ | exact Ext.done | apply Ext.take | apply Ext.skip)))) ?_
  refine dr_light rfl rfl (wtd_none rfl) (x_fieldAddr fd77_0 rfl) ?_
  refine dr_light rfl rfl (wtd_none rfl) (x_fieldAddr fd28_0 rfl) ?_
  refine dr_mem0 rfl rfl (wtd_none rfl) (x_load ag3 rfl (cells_ext (by repeat (first | exact List.mem_cons_self | apply List.mem_cons_of_mem | apply List.mem_append_right)) (by repeat (first | exact Ext.all _ | exact Ext.done | apply Ext.take | apply Ext.skip)))) ?_
  refine dr_callq0 rfl rfl (wtd_none rfl) (opS_F rfl rfl rfl rfl cl52 ((cmp_s _ _ _))) (⟨_, rfl⟩) ?_
  rintro _ rfl
  refine dr_alloc rfl rfl (wtd_none rfl) (x_buildSlice Try.underlying54 sz3 zr3 rfl rfl rfl rfl (by repeat (first | exact Parts.nil | (apply Parts.cons; rfl))) (by repeat (first | exact Fill.done | (apply Fill.part; rfl; rfl; rfl; focus (repeat (first | exact Spl.done | exact Spl.all rfl | apply Spl.put | apply Spl.skip)))))) ?_
  intro r1_16 hr1_16 gr1_16
  refine dr_callq rfl (V := [(r1_16, _)]) rfl rfl rfl (wtd_none rfl) (opS_F rfl rfl rfl rfl cl51 (or_s _ _ [cmpI (pts r now y) (pts r now x), cmpI x.a.job.id y.a.job.id] _ rfl (by omega) (cells_ext (by repeat (first | exact List.mem_cons_self | apply List.mem_cons_of_mem | apply List.mem_append_right)) (by repeat (first | exact Ext.all _ | exact Ext.done | apply Ext.take | apply Ext.skip))))) (⟨_, rfl⟩) ?_
  rintro _ rfl
  refine dr_light rfl rfl (wtd_none rfl) (x_assign rfl) ?_
  refine dr_drop ?_
  refine aw_keep (keep_cons (t := 6) rfl keep_nil) ?_
  refine aw_ret ?_
  show ∃ v H2, ResV _ _ _ _ _ _ v ∧ Sub H2 _ ∧ _
  exact ⟨_, H, resV rfl (.cons rfl .nil), (by repeat (first | exact Sub.refl _ | apply Sub.drop | apply Sub.dropE)), ⟨rfl, rfl⟩⟩
set_option maxRecDepth 100000 in
set_option maxHeartbeats 400000 in
theorem aclone_s (a : Option Addr) (cap : Nat) (xs : List WA) (H : SHeap) (hs : SlV W0 H 11 WA.cells a cap xs) (hjl : xs.length ≤ 1000000) : AC Try.prog W0 68 [.slice a xs.length cap] H (fun v H' => ∃ E2, (∃ a2 cap2, OwnVec 11 77 (.slice a2 xs.length cap2) xs.length (xs.flatMap WA.cells) E2 ∧ v = .slice a2 xs.length cap2) ∧ H' = E2 ++ H) := by
  have hfl := flat_len (n := 11) (enc := WA.cells) (fun _ => rfl) xs
  have hfn : a.isNone = true → xs.length = 0 := fun h => by rcases hs.flat (fun _ => rfl) (by omega) with ⟨q, _⟩ | ⟨b, off, rfl, _⟩ <;> first | exact q | cases h
  refine ac_of Try.func68 rfl rfl rfl ?_
  refine aw_seq_region ?_
  refine sr_x rfl (wtd_none rfl) rfl (Rd.x (x_assign rfl)) ?_
  refine sr_nil ?_
  refine aw_keep (keep_cons (t := 0) rfl (keep_cons (t := 2) rfl keep_nil)) ?_
  refine aw_seq ?_
  refine aw_seq_region ?_
  refine sr_x rfl (wtd_none rfl) rfl (Rd.x (x_move rfl)) ?_
  refine sr_x rfl (wtd_none rfl) rfl (Rd.x (x_eqnils Try.underlying72 rfl rfl)) ?_
  refine sr_nil ?_
  refine aw_keep (keep_cons (t := 0) rfl (keep_cons (t := 2) rfl (keep_cons (t := 4) rfl keep_nil))) ?_
  refine aw_cond rfl (fun hb1 => ?_) (fun hb1 => ?_)
  · refine aw_seq_region ?_
    refine sr_x rfl (wtd_none rfl) rfl (Rd.x (x_assign rfl)) ?_
    refine sr_nil ?_
    refine aw_keep (keep_cons (t := 0) rfl (keep_cons (t := 2) rfl keep_nil)) ?_
    refine aw_ret ?_
    show ∃ v H2, ResV _ _ _ _ _ _ v ∧ Sub H2 _ ∧ _
    first | (rw [Nat.zero_add, List.nil_append] at hV7; obtain ⟨a7, cap7, rfl⟩ := hV7.isSl; exact ⟨_, E7 ++ H, resV rfl (.cons rfl .nil), (Sub.refl _), E7, ⟨a7, cap7, hV7, rfl⟩, rfl⟩) | (have hz := hfn (by assumption); have hj0 : xs = [] := List.length_eq_zero_iff.1 hz; subst hj0; exact ⟨_, [] ++ H, resV rfl (.cons rfl .nil), (Sub.refl _), [], ⟨none, 0, .nil, rfl⟩, rfl⟩)
  · refine aw_skip ?_
    show AW _ _ _ _ _ _ _
    refine aw_seq_region ?_
    refine sr_new rfl (wtd_none rfl) rfl (x_buildSlice0 Try.underlying72 sz77 rfl) ?_
    intro r3_0 hr3_0 gr3_0
    refine sr_x rfl (wtd_none rfl) rfl (Rd.x (x_move rfl)) ?_
    refine sr_d rfl (wtd_none rfl) rfl (opS_append (G := H) (N := xs.flatMap WA.cells) (m := xs.length) Try.underlying72 sz77 zr77 rfl by77 rfl rfl (OwnVec.mk (r := r3_0) (n := 0) (cap := 0) (L := []) (post := []) rfl rfl (by omega) (by omega)) (by repeat (first | exact Sub.refl _ | refine Sub.take (by repeat (first | exact Take.here | apply Take.there | apply Take.app)) ?_ | refine Sub.takeE (by repeat (first | exact TakeE.here | apply TakeE.there | apply TakeE.app)) ?_ | exact Sub.nil _ | apply Sub.drop | apply Sub.dropE)) (((hs.mono (by repeat (first | exact Sub.refl _ | apply Sub.drop))).flat (fun _ => rfl) (by omega))) (hfl) (all_oneA xs) (by omega) (by omega)) ?_
    rintro v7 _ ⟨E7, hV7, rfl⟩
    refine sr_x rfl (wtd_none rfl) rfl (Rd.x (x_assign rfl)) ?_
    refine sr_nil ?_
    refine aw_keep (keep_cons (t := 2) rfl keep_nil) ?_
    refine aw_ret ?_
    show ∃ v H2, ResV _ _ _ _ _ _ v ∧ Sub H2 _ ∧ _
    first | (rw [Nat.zero_add, List.nil_append] at hV7; obtain ⟨a7, cap7, rfl⟩ := hV7.isSl; exact ⟨_, E7 ++ H, resV rfl (.cons rfl .nil), (Sub.refl _), E7, ⟨a7, cap7, hV7, rfl⟩, rfl⟩) | (have hz := hfn (by assumption); have hj0 : xs = [] := List.length_eq_zero_iff.1 hz; subst hj0; exact ⟨_, [] ++ H, resV rfl (.cons rfl .nil), (Sub.refl _), [], ⟨none, 0, .nil, rfl⟩, rfl⟩)
section
variable {q1 q2 : Nat}
set_option maxRecDepth 100000 in
set_option maxHeartbeats 400000 in
theorem asSwr_s (b cap n : Nat) (W : List WA) (post : List Value) (G : SHeap) (hl : W.length = n) (hn : n ≤ 100000) (hcap : n ≤ cap) (hcb : cap ≤ 9223372036854775807) (a k2 n2 : Nat) (h1 : a + n2 ≤ k2) (h2 : k2 + n2 ≤ n) : AC Try.prog W0 86 [.slice (some ⟨b, 0, none⟩) n cap, .int .i64 a, .int .i64 k2, .int .i64 n2, .func (.func 70) #[] #[.pointer (some ⟨q1, 0, none⟩), .pointer (some ⟨q2, 0, none⟩)]] ((b, .cells ((W).flatMap WA.cells ++ post).toArray 77 (0, 0)) :: G) (fun v H' => ∃ W', Mv W (swF a k2 n2) W' ∧ v = .tuple #[] ∧ H' = (b, .cells ((W').flatMap WA.cells ++ post).toArray 77 (0, 0)) :: G) := by
  refine ac_of Try.func86 rfl rfl rfl ?_
  refine aw_seq_region ?_
  refine sr_x rfl (wtd_none rfl) rfl (Rd.x (x_assign rfl)) ?_
  refine sr_nil ?_
  refine aw_keep (keep_cons (t := 0) rfl (keep_cons (t := 1) rfl (keep_cons (t := 2) rfl (keep_cons (t := 3) rfl (keep_cons (t := 10) rfl keep_nil))))) ?_
  refine aw_block ?_
  refine aw_loop (ι := SortG WA) (fun s => s.k ≤ n2 ∧ s.W.length = n ∧ Mv W (swF a k2 s.k) s.W) (fun s => [(0, .slice (some ⟨b, 0, none⟩) n cap), (1, .int .i64 a), (2, .int .i64 k2), (3, .int .i64 n2), (10, .int .i64 s.k)]) (fun s => (b, .cells ((s.W).flatMap WA.cells ++ post).toArray 77 (0, 0)) :: G) (fun s => n2 - s.k) ⟨0, W⟩ (⟨Nat.zero_le _, hl, Mv.refl W (swF_zero a k2)⟩) (by repeat (first | exact keep_nil | refine keep_cons rfl ?_)) (by repeat (first | exact Sub.refl _ | refine Sub.take (by repeat (first | exact Take.here | apply Take.there | apply Take.app)) ?_ | refine Sub.takeE (by repeat (first | exact TakeE.here | apply TakeE.there | apply TakeE.app)) ?_ | exact Sub.nil _ | apply Sub.drop | apply Sub.dropE)) ?_
  intro s hs9
  obtain ⟨k, cur⟩ := s
  dsimp only at hs9 ⊢
  obtain ⟨hk, hcl, hmv⟩ := hs9
  refine aw_seq ?_
  refine aw_seq_region ?_
  refine sr_x rfl (wtd_none rfl) rfl (Rd.x (x_move rfl)) ?_
  refine sr_x rfl (wtd_none rfl) rfl (Rd.x (x_move rfl)) ?_
  refine sr_cmp rfl (wtd_none rfl) rfl (Rd.x (x_lt rfl rfl)) (fun h1 => ?_) (fun h1 => ?_)
  · refine sr_nil ?_
    refine aw_keep (keep_cons (t := 0) rfl (keep_cons (t := 1) rfl (keep_cons (t := 2) rfl (keep_cons (t := 3) rfl (keep_cons (t := 10) rfl (keep_cons (t := 11) rfl (keep_cons (t := 12) rfl (keep_cons (t := 13) rfl keep_nil)))))))) ?_
    refine aw_true rfl ?_
    refine aw_skip ?_
    show AW _ _ _ _ _ _ _
    refine aw_seq ?_
    refine aw_block ?_
    refine aw_dr ⟨_, 24, 38, [[], [], [], [1, 2], [], [], [], [5, 6], [], [], [], [9, 10], [8, 9, 10, 11], [8, 9, 10, 11, 12], [], [], [], [15, 16], [14, 15, 16, 17], [14, 15, 16, 17, 18], [0, 1, 2, 3, 8, 9, 10, 11, 12, 13, 14, 15, 16, 17, 18, 19], [0, 1, 2, 3, 8, 9, 10, 11, 12, 13, 14, 15, 16, 17, 18, 19, 20], [0, 1, 2, 3, 4, 5, 6, 7, 8, 9, 10, 11, 12, 13, 14, 15, 16, 17, 18, 19, 20, 21], [0, 1, 2, 3, 4, 5, 6, 7, 8, 9, 10, 11, 12, 13, 14, 15, 16, 17, 18, 19, 20, 21, 22]], [.light, .light, .light, .light, .light, .light, .light, .light, .light, .light, .light, .light, .light, .mem, .light, .light, .light, .light, .light, .mem, .light, .eff, .light, .eff]⟩ (by kernel_rfl) rfl rfl mix ?_
    refine dr_light rfl rfl (wtd_none rfl) (x_move rfl) ?_
    refine dr_light rfl rfl (wtd_none rfl) (x_move rfl) ?_
    refine dr_light rfl rfl (wtd_none rfl) (x_move rfl) ?_
    refine dr_light rfl rfl (wtd_none rfl) (x_add' rfl rfl (i64w (by omega) (by omega))) ?_
    refine dr_light rfl rfl (wtd_none rfl) (x_move rfl) ?_
    refine dr_light rfl rfl (wtd_none rfl) (x_move rfl) ?_
    refine dr_light rfl rfl (wtd_none rfl) (x_move rfl) ?_
    refine dr_light rfl rfl (wtd_none rfl) (x_add' rfl rfl (i64w (by omega) (by omega))) ?_
    refine dr_light rfl rfl (wtd_none rfl) (x_move rfl) ?_
    refine dr_light rfl rfl (wtd_none rfl) (x_move rfl) ?_
    refine dr_light rfl rfl (wtd_none rfl) (x_move rfl) ?_
    refine dr_light rfl rfl (wtd_none rfl) (x_add' rfl rfl (i64w (by omega) (by omega))) ?_
    refine dr_light rfl rfl (wtd_none rfl) (x_indexAddrN (k2 + k) Try.underlying72 sz77 rfl rfl rfl (by omega) (by omega)) ?_
    refine dr_mem0 rfl rfl (wtd_none rfl) (x_loadN ag77 sz77 rfl ((cells_flat0 (n := 11) (enc := WA.cells) (fun _ => rfl) (xs := cur) (post := post) (show (b, Obj.cells ((cur).flatMap WA.cells ++ post).toArray 77 (0, 0)) ∈ _ from (by repeat (first | exact List.mem_cons_self | apply List.mem_cons_of_mem | apply List.mem_append_right))) (gd_some (by omega)))) rfl) ?_
    refine dr_light rfl rfl (wtd_none rfl) (x_move rfl) ?_
    refine dr_light rfl rfl (wtd_none rfl) (x_move rfl) ?_
    refine dr_light rfl rfl (wtd_none rfl) (x_move rfl) ?_
    refine dr_light rfl rfl (wtd_none rfl) (x_add' rfl rfl (i64w (by omega) (by omega))) ?_
    refine dr_light rfl rfl (wtd_none rfl) (x_indexAddrN (a + k) Try.underlying72 sz77 rfl rfl rfl (by omega) (by omega)) ?_
    refine dr_mem0 rfl rfl (wtd_none rfl) (x_loadN ag77 sz77 rfl ((cells_flat0 (n := 11) (enc := WA.cells) (fun _ => rfl) (xs := cur) (post := post) (show (b, Obj.cells ((cur).flatMap WA.cells ++ post).toArray 77 (0, 0)) ∈ _ from (by repeat (first | exact List.mem_cons_self | apply List.mem_cons_of_mem | apply List.mem_append_right))) (gd_some (by omega)))) rfl) ?_
    refine dr_light rfl rfl (wtd_none rfl) (x_indexAddrN (a + k) Try.underlying72 sz77 rfl rfl rfl (by omega) (by omega)) ?_
    refine dr_store0 rfl rfl (wtd_none rfl) (x_store sz77 rfl rfl rfl rfl rfl (by repeat (first | exact Repl.here | apply Repl.there | apply Repl.app)) (spl_flat0 (n := 11) (enc := WA.cells) (fun _ => rfl) (xs := cur) (post := post) (i := (a + k)) (x' := gd cur (k2 + k)) (by first | omega | (rw [List.length_set]; omega)))) (by first | rfl | simp [keys_append, keys_cons]) ?_
    refine dr_light rfl rfl (wtd_none rfl) (x_indexAddrN (k2 + k) Try.underlying72 sz77 rfl rfl rfl (by omega) (by omega)) ?_
    refine dr_store0 rfl rfl (wtd_none rfl) (x_store sz77 rfl rfl rfl rfl rfl (by repeat (first | exact Repl.here | apply Repl.there | apply Repl.app)) (spl_flat0 (n := 11) (enc := WA.cells) (fun _ => rfl) (xs := ((cur).set (a + k) (gd cur (k2 + k)))) (post := post) (i := (k2 + k)) (x' := gd cur (a + k)) (by first | omega | (rw [List.length_set]; omega)))) (by first | rfl | simp [keys_append, keys_cons]) ?_
    refine dr_nil0 ?_
    show AW _ _ _ _ _ _ _
    refine aw_region ?_
    refine sr_x rfl (wtd_none rfl) rfl (Rd.x (x_move rfl)) ?_
    refine sr_x rfl (wtd_none rfl) rfl (Rd.x (x_add' rfl rfl (i64w (by omega) (by omega)))) ?_
    refine sr_x rfl (wtd_none rfl) rfl (Rd.x (x_assign rfl)) ?_
    refine sr_nil ?_
    show ∃ s', _ ∧ _ ∧ _ ∧ _
    exact ⟨⟨k + 1, sw cur (a + k) (k2 + k)⟩, ⟨by dsimp only; omega, sw_len.trans hcl, hmv.sw (by omega) (by omega) (swF_step (by omega))⟩, by dsimp only; omega, (by repeat (first | exact keep_nil | refine keep_cons rfl ?_)), (by repeat (first | exact Sub.refl _ | refine Sub.take (by repeat (first | exact Take.here | apply Take.there | apply Take.app)) ?_ | refine Sub.takeE (by repeat (first | exact TakeE.here | apply TakeE.there | apply TakeE.app)) ?_ | exact Sub.nil _ | apply Sub.drop | apply Sub.dropE))⟩
  · refine sr_nil ?_
    refine aw_keep (keep_cons (t := 0) rfl (keep_cons (t := 1) rfl (keep_cons (t := 2) rfl (keep_cons (t := 3) rfl (keep_cons (t := 10) rfl (keep_cons (t := 11) rfl (keep_cons (t := 12) rfl (keep_cons (t := 13) rfl keep_nil)))))))) ?_
    refine aw_false rfl ?_
    refine aw_exit ?_
    show ∃ v H2, ResV _ _ _ _ _ _ v ∧ Sub H2 _ ∧ _
    (obtain rfl : k = n2 := (by omega)); exact ⟨_, _, resV rfl .nil, Sub.refl _, cur, hmv, rfl, rfl⟩
set_option maxRecDepth 100000 in
set_option maxHeartbeats 1000000 in
theorem asRot_s (b cap n : Nat) (W : List WA) (post : List Value) (G : SHeap) (hl : W.length = n) (hn : n ≤ 100000) (hcap : n ≤ cap) (hcb : cap ≤ 9223372036854775807) (s m e : Nat) (h1 : s < m) (h2 : m < e) (h3 : e ≤ n) : AC Try.prog W0 84 [.slice (some ⟨b, 0, none⟩) n cap, .int .i64 s, .int .i64 m, .int .i64 e, .func (.func 70) #[] #[.pointer (some ⟨q1, 0, none⟩), .pointer (some ⟨q2, 0, none⟩)]] ((b, .cells ((W).flatMap WA.cells ++ post).toArray 77 (0, 0)) :: G) (fun v H' => ∃ W', Mv W (rotF s m e) W' ∧ v = .tuple #[] ∧ H' = (b, .cells ((W').flatMap WA.cells ++ post).toArray 77 (0, 0)) :: G) := by
  refine ac_of Try.func84 rfl rfl rfl ?_
  refine aw_seq_region ?_
  refine sr_x rfl (wtd_none rfl) rfl (Rd.x (x_move rfl)) ?_
  refine sr_x rfl (wtd_none rfl) rfl (Rd.x (x_move rfl)) ?_
  refine sr_x rfl (wtd_none rfl) rfl (Rd.x (x_cast (u := .int .i64 ((m - s : Nat) : Int)) (x_sub' rfl rfl (i64w (by omega) (by omega))) (by congr 1; omega))) ?_
  refine sr_x rfl (wtd_none rfl) rfl (Rd.x (x_assign rfl)) ?_
  refine sr_nil ?_
  refine aw_keep (keep_cons (t := 0) rfl (keep_cons (t := 2) rfl (keep_cons (t := 3) rfl (keep_cons (t := 4) rfl (keep_cons (t := 10) rfl keep_nil))))) ?_
  refine aw_seq_region ?_
  refine sr_x rfl (wtd_none rfl) rfl (Rd.x (x_move rfl)) ?_
  refine sr_x rfl (wtd_none rfl) rfl (Rd.x (x_move rfl)) ?_
  refine sr_x rfl (wtd_none rfl) rfl (Rd.x (x_cast (u := .int .i64 ((e - m : Nat) : Int)) (x_sub' rfl rfl (i64w (by omega) (by omega))) (by congr 1; omega))) ?_
  refine sr_x rfl (wtd_none rfl) rfl (Rd.x (x_assign rfl)) ?_
  refine sr_nil ?_
  refine aw_keep (keep_cons (t := 0) rfl (keep_cons (t := 2) rfl (keep_cons (t := 4) rfl (keep_cons (t := 10) rfl (keep_cons (t := 11) rfl keep_nil))))) ?_
  refine aw_seq ?_
  refine aw_block ?_
  refine aw_loop (ι := RotG WA) (fun s' => RotI W s m e s'.W s'.i s'.j) (fun s' => [(0, .slice (some ⟨b, 0, none⟩) n cap), (2, .int .i64 m), (4, .func (.func 70) #[] #[.pointer (some ⟨q1, 0, none⟩), .pointer (some ⟨q2, 0, none⟩)]), (10, .int .i64 s'.i), (11, .int .i64 s'.j)]) (fun s' => (b, .cells ((s'.W).flatMap WA.cells ++ post).toArray 77 (0, 0)) :: G) (fun s' => s'.i + s'.j) ⟨m - s, e - m, W⟩ (RotI.start h1 h2) (by repeat (first | exact keep_nil | refine keep_cons rfl ?_)) (by repeat (first | exact Sub.refl _ | refine Sub.take (by repeat (first | exact Take.here | apply Take.there | apply Take.app)) ?_ | refine Sub.takeE (by repeat (first | exact TakeE.here | apply TakeE.there | apply TakeE.app)) ?_ | exact Sub.nil _ | apply Sub.drop | apply Sub.dropE)) ?_
  intro s' hs9
  obtain ⟨i, j, cur⟩ := s'
  dsimp only at hs9 ⊢
  have hri := hs9
  obtain ⟨hcl, ⟨hb1, hb2, hb3, hb4⟩, -⟩ := hs9
  refine aw_seq ?_
  refine aw_seq_region ?_
  refine sr_x rfl (wtd_none rfl) rfl (Rd.x (x_move rfl)) ?_
  refine sr_x rfl (wtd_none rfl) rfl (Rd.x (x_move rfl)) ?_
  refine sr_cmp rfl (wtd_none rfl) rfl (Rd.x (x_ne rfl rfl)) (fun h1 => ?_) (fun h1 => ?_)
  · refine sr_nil ?_
    refine aw_keep (keep_cons (t := 0) rfl (keep_cons (t := 2) rfl (keep_cons (t := 4) rfl (keep_cons (t := 10) rfl (keep_cons (t := 11) rfl (keep_cons (t := 18) rfl (keep_cons (t := 19) rfl (keep_cons (t := 20) rfl keep_nil)))))))) ?_
    refine aw_true rfl ?_
    refine aw_skip ?_
    show AW _ _ _ _ _ _ _
    refine aw_block ?_
    refine aw_seq_region ?_
    refine sr_x rfl (wtd_none rfl) rfl (Rd.x (x_move rfl)) ?_
    refine sr_x rfl (wtd_none rfl) rfl (Rd.x (x_move rfl)) ?_
    refine sr_cmp rfl (wtd_none rfl) rfl (Rd.x (x_gt rfl rfl)) (fun h2 => ?_) (fun h2 => ?_)
    · refine sr_nil ?_
      refine aw_keep (keep_cons (t := 0) rfl (keep_cons (t := 2) rfl (keep_cons (t := 4) rfl (keep_cons (t := 10) rfl (keep_cons (t := 11) rfl (keep_cons (t := 18) rfl (keep_cons (t := 19) rfl (keep_cons (t := 20) rfl (keep_cons (t := 21) rfl (keep_cons (t := 22) rfl (keep_cons (t := 23) rfl keep_nil))))))))))) ?_
      refine aw_true rfl ?_
      refine aw_seq_region ?_
      refine sr_x rfl (wtd_none rfl) rfl (Rd.x (x_move rfl)) ?_
      refine sr_x rfl (wtd_none rfl) rfl (Rd.x (x_move rfl)) ?_
      refine sr_x rfl (wtd_none rfl) rfl (Rd.x (x_move rfl)) ?_
      refine sr_x rfl (wtd_none rfl) rfl (Rd.x (x_cast (u := .int .i64 ((m - i : Nat) : Int)) (x_sub' rfl rfl (i64w (by omega) (by omega))) (by congr 1; omega))) ?_
      refine sr_x rfl (wtd_none rfl) rfl (Rd.x (x_move rfl)) ?_
      refine sr_x rfl (wtd_none rfl) rfl (Rd.x (x_move rfl)) ?_
      refine sr_x rfl (wtd_none rfl) rfl (Rd.x (x_move rfl)) ?_
      refine sr_d rfl (wtd_none rfl) rfl (opS_call rfl rfl rfl rfl cl86 (AC.sub (by repeat (first | exact Sub.refl _ | refine Sub.take (by repeat (first | exact Take.here | apply Take.there | apply Take.app)) ?_ | refine Sub.takeE (by repeat (first | exact TakeE.here | apply TakeE.there | apply TakeE.app)) ?_ | exact Sub.nil _ | apply Sub.drop | apply Sub.dropE)) (asSwr_s b cap n cur post G (by omega) hn hcap hcb (m - i) m j (by omega) (by omega)))) ?_
      rintro _ _ ⟨W9, hm9, rfl, rfl⟩
      refine sr_nil ?_
      refine aw_keep (keep_cons (t := 0) rfl (keep_cons (t := 2) rfl (keep_cons (t := 4) rfl (keep_cons (t := 10) rfl (keep_cons (t := 11) rfl (keep_cons (t := 18) rfl (keep_cons (t := 19) rfl (keep_cons (t := 20) rfl (keep_cons (t := 21) rfl (keep_cons (t := 22) rfl (keep_cons (t := 23) rfl (keep_cons (t := 24) rfl (keep_cons (t := 25) rfl (keep_cons (t := 26) rfl (keep_cons (t := 27) rfl (keep_cons (t := 28) rfl (keep_cons (t := 29) rfl (keep_cons (t := 30) rfl keep_nil)))))))))))))))))) ?_
      refine aw_region ?_
      refine sr_x rfl (wtd_none rfl) rfl (Rd.x (x_move rfl)) ?_
      refine sr_x rfl (wtd_none rfl) rfl (Rd.x (x_move rfl)) ?_
      refine sr_x rfl (wtd_none rfl) rfl (Rd.x (x_cast (u := .int .i64 ((i - j : Nat) : Int)) (x_sub' rfl rfl (i64w (by omega) (by omega))) (by congr 1; omega))) ?_
      refine sr_x rfl (wtd_none rfl) rfl (Rd.x (x_assign rfl)) ?_
      refine sr_nil ?_
      show ∃ s', _ ∧ _ ∧ _ ∧ _
      first | exact ⟨⟨i - j, j, W9⟩, hri.gt (by omega) hm9, by dsimp only; omega, (by repeat (first | exact keep_nil | refine keep_cons rfl ?_)), (by repeat (first | exact Sub.refl _ | refine Sub.take (by repeat (first | exact Take.here | apply Take.there | apply Take.app)) ?_ | refine Sub.takeE (by repeat (first | exact TakeE.here | apply TakeE.there | apply TakeE.app)) ?_ | exact Sub.nil _ | apply Sub.drop | apply Sub.dropE))⟩ | exact ⟨⟨i, j - i, W9⟩, hri.lt (by omega) hm9, by dsimp only; omega, (by repeat (first | exact keep_nil | refine keep_cons rfl ?_)), (by repeat (first | exact Sub.refl _ | refine Sub.take (by repeat (first | exact Take.here | apply Take.there | apply Take.app)) ?_ | refine Sub.takeE (by repeat (first | exact TakeE.here | apply TakeE.there | apply TakeE.app)) ?_ | exact Sub.nil _ | apply Sub.drop | apply Sub.dropE))⟩
    · refine sr_nil ?_
      refine aw_keep (keep_cons (t := 0) rfl (keep_cons (t := 2) rfl (keep_cons (t := 4) rfl (keep_cons (t := 10) rfl (keep_cons (t := 11) rfl (keep_cons (t := 18) rfl (keep_cons (t := 19) rfl (keep_cons (t := 20) rfl (keep_cons (t := 21) rfl (keep_cons (t := 22) rfl (keep_cons (t := 23) rfl keep_nil))))))))))) ?_
      refine aw_false rfl ?_
      refine aw_seq_region ?_
      refine sr_x rfl (wtd_none rfl) rfl (Rd.x (x_move rfl)) ?_
      refine sr_x rfl (wtd_none rfl) rfl (Rd.x (x_move rfl)) ?_
      refine sr_x rfl (wtd_none rfl) rfl (Rd.x (x_move rfl)) ?_
      refine sr_x rfl (wtd_none rfl) rfl (Rd.x (x_cast (u := .int .i64 ((m - i : Nat) : Int)) (x_sub' rfl rfl (i64w (by omega) (by omega))) (by congr 1; omega))) ?_
      refine sr_x rfl (wtd_none rfl) rfl (Rd.x (x_move rfl)) ?_
      refine sr_x rfl (wtd_none rfl) rfl (Rd.x (x_move rfl)) ?_
      refine sr_x rfl (wtd_none rfl) rfl (Rd.x (x_cast (u := .int .i64 ((m + j : Nat) : Int)) (x_add' rfl rfl (i64w (by omega) (by omega))) (by congr 1))) ?_
      refine sr_x rfl (wtd_none rfl) rfl (Rd.x (x_move rfl)) ?_
      refine sr_x rfl (wtd_none rfl) rfl (Rd.x (x_cast (u := .int .i64 ((m + j - i : Nat) : Int)) (x_sub' rfl rfl (i64w (by omega) (by omega))) (by congr 1; omega))) ?_
      refine sr_x rfl (wtd_none rfl) rfl (Rd.x (x_move rfl)) ?_
      refine sr_x rfl (wtd_none rfl) rfl (Rd.x (x_move rfl)) ?_
      refine sr_d rfl (wtd_none rfl) rfl (opS_call rfl rfl rfl rfl cl86 (AC.sub (by repeat (first | exact Sub.refl _ | refine Sub.take (by repeat (first | exact Take.here | apply Take.there | apply Take.app)) ?_ | refine Sub.takeE (by repeat (first | exact TakeE.here | apply TakeE.there | apply TakeE.app)) ?_ | exact Sub.nil _ | apply Sub.drop | apply Sub.dropE)) (asSwr_s b cap n cur post G (by omega) hn hcap hcb (m - i) (m + j - i) i (by omega) (by omega)))) ?_
      rintro _ _ ⟨W9, hm9, rfl, rfl⟩
      refine sr_nil ?_
      refine aw_keep (keep_cons (t := 0) rfl (keep_cons (t := 2) rfl (keep_cons (t := 4) rfl (keep_cons (t := 10) rfl (keep_cons (t := 11) rfl (keep_cons (t := 18) rfl (keep_cons (t := 19) rfl (keep_cons (t := 20) rfl (keep_cons (t := 21) rfl (keep_cons (t := 22) rfl (keep_cons (t := 23) rfl (keep_cons (t := 35) rfl (keep_cons (t := 36) rfl (keep_cons (t := 37) rfl (keep_cons (t := 38) rfl (keep_cons (t := 39) rfl (keep_cons (t := 40) rfl (keep_cons (t := 41) rfl (keep_cons (t := 42) rfl (keep_cons (t := 43) rfl (keep_cons (t := 44) rfl (keep_cons (t := 45) rfl keep_nil)))))))))))))))))))))) ?_
      refine aw_region ?_
      refine sr_x rfl (wtd_none rfl) rfl (Rd.x (x_move rfl)) ?_
      refine sr_x rfl (wtd_none rfl) rfl (Rd.x (x_move rfl)) ?_
      refine sr_x rfl (wtd_none rfl) rfl (Rd.x (x_cast (u := .int .i64 ((j - i : Nat) : Int)) (x_sub' rfl rfl (i64w (by omega) (by omega))) (by congr 1; omega))) ?_
      refine sr_x rfl (wtd_none rfl) rfl (Rd.x (x_assign rfl)) ?_
      refine sr_nil ?_
      show ∃ s', _ ∧ _ ∧ _ ∧ _
      first | exact ⟨⟨i - j, j, W9⟩, hri.gt (by omega) hm9, by dsimp only; omega, (by repeat (first | exact keep_nil | refine keep_cons rfl ?_)), (by repeat (first | exact Sub.refl _ | refine Sub.take (by repeat (first | exact Take.here | apply Take.there | apply Take.app)) ?_ | refine Sub.takeE (by repeat (first | exact TakeE.here | apply TakeE.there | apply TakeE.app)) ?_ | exact Sub.nil _ | apply Sub.drop | apply Sub.dropE))⟩ | exact ⟨⟨i, j - i, W9⟩, hri.lt (by omega) hm9, by dsimp only; omega, (by repeat (first | exact keep_nil | refine keep_cons rfl ?_)), (by repeat (first | exact Sub.refl _ | refine Sub.take (by repeat (first | exact Take.here | apply Take.there | apply Take.app)) ?_ | refine Sub.takeE (by repeat (first | exact TakeE.here | apply TakeE.there | apply TakeE.app)) ?_ | exact Sub.nil _ | apply Sub.drop | apply Sub.dropE))⟩
  · refine sr_nil ?_
    refine aw_keep (keep_cons (t := 0) rfl (keep_cons (t := 2) rfl (keep_cons (t := 4) rfl (keep_cons (t := 10) rfl (keep_cons (t := 11) rfl (keep_cons (t := 18) rfl (keep_cons (t := 19) rfl (keep_cons (t := 20) rfl keep_nil)))))))) ?_
    refine aw_false rfl ?_
    refine aw_exit ?_
    show AW _ _ _ _ _ _ _
    refine aw_region ?_
    obtain rfl : i = j := by omega
    refine sr_x rfl (wtd_none rfl) rfl (Rd.x (x_move rfl)) ?_
    refine sr_x rfl (wtd_none rfl) rfl (Rd.x (x_move rfl)) ?_
    refine sr_x rfl (wtd_none rfl) rfl (Rd.x (x_move rfl)) ?_
    refine sr_x rfl (wtd_none rfl) rfl (Rd.x (x_cast (u := .int .i64 ((m - i : Nat) : Int)) (x_sub' rfl rfl (i64w (by omega) (by omega))) (by congr 1; omega))) ?_
    refine sr_x rfl (wtd_none rfl) rfl (Rd.x (x_move rfl)) ?_
    refine sr_x rfl (wtd_none rfl) rfl (Rd.x (x_move rfl)) ?_
    refine sr_x rfl (wtd_none rfl) rfl (Rd.x (x_move rfl)) ?_
    refine sr_d rfl (wtd_none rfl) rfl (opS_call rfl rfl rfl rfl cl86 (AC.sub (by repeat (first | exact Sub.refl _ | refine Sub.take (by repeat (first | exact Take.here | apply Take.there | apply Take.app)) ?_ | refine Sub.takeE (by repeat (first | exact TakeE.here | apply TakeE.there | apply TakeE.app)) ?_ | exact Sub.nil _ | apply Sub.drop | apply Sub.dropE)) (asSwr_s b cap n cur post G (by omega) hn hcap hcb (m - i) m i (by omega) (by omega)))) ?_
    rintro _ _ ⟨W9, hm9, rfl, rfl⟩
    refine sr_nil ?_
    show ∃ v H2, ResV _ _ _ _ _ _ v ∧ Sub H2 _ ∧ _
    exact ⟨_, _, resV rfl .nil, Sub.refl _, W9, hri.eq hm9, rfl, rfl⟩
set_option maxRecDepth 100000 in
set_option maxHeartbeats 2000000 in
theorem asIns_s (b cap n : Nat) (W : List WA) (post : List Value) (G : SHeap) (hl : W.length = n) (hn : n ≤ 100000) (hcap : n ≤ cap) (hcb : cap ≤ 9223372036854775807) (a e : Nat) (h1 : a ≤ e) (h2 : e ≤ n) (c : WA → WA → Int) (hcmp : ∀ x y V, Sub G V → AC Try.prog W0 70 [WA.v x, WA.v y, .pointer (some ⟨q1, 0, none⟩), .pointer (some ⟨q2, 0, none⟩)] V (fun v H' => v = .int .i64 (c x y) ∧ H' = V)) (hsw : Swo c) : AC Try.prog W0 81 [.slice (some ⟨b, 0, none⟩) n cap, .int .i64 a, .int .i64 e, .func (.func 70) #[] #[.pointer (some ⟨q1, 0, none⟩), .pointer (some ⟨q2, 0, none⟩)]] ((b, .cells ((W).flatMap WA.cells ++ post).toArray 77 (0, 0)) :: G) (fun v H' => ∃ W', Mg c W a e W' ∧ v = .tuple #[] ∧ H' = (b, .cells ((W').flatMap WA.cells ++ post).toArray 77 (0, 0)) :: G) := by
  refine ac_of Try.func81 rfl rfl rfl ?_
  refine aw_seq_region ?_
  refine sr_x rfl (wtd_none rfl) rfl (Rd.x (x_move rfl)) ?_
  refine sr_x rfl (wtd_none rfl) rfl (Rd.x (x_add' rfl rfl (i64w (by omega) (by omega)))) ?_
  refine sr_x rfl (wtd_none rfl) rfl (Rd.x (x_assign rfl)) ?_
  refine sr_nil ?_
  refine aw_keep (keep_cons (t := 0) rfl (keep_cons (t := 1) rfl (keep_cons (t := 2) rfl (keep_cons (t := 3) rfl (keep_cons (t := 8) rfl keep_nil))))) ?_
  refine aw_block ?_
  refine aw_loop (ι := SortG WA) (fun s => a + 1 ≤ s.k ∧ (s.k ≤ e ∨ s.k = a + 1) ∧ s.W.length = n ∧ St c W s.W ∧ InR W a e s.W ∧ SrtI c s.W a s.k) (fun s => [(0, .slice (some ⟨b, 0, none⟩) n cap), (1, .int .i64 a), (2, .int .i64 e), (3, .func (.func 70) #[] #[.pointer (some ⟨q1, 0, none⟩), .pointer (some ⟨q2, 0, none⟩)]), (8, .int .i64 s.k)]) (fun s => (b, .cells ((s.W).flatMap WA.cells ++ post).toArray 77 (0, 0)) :: G) (fun s => e - s.k) ⟨a + 1, W⟩ (⟨Nat.le_refl _, .inr rfl, hl, St.refl _, InR.refl _ _ _, SrtI.one (Nat.le_refl _)⟩) (by repeat (first | exact keep_nil | refine keep_cons rfl ?_)) (by repeat (first | exact Sub.refl _ | refine Sub.take (by repeat (first | exact Take.here | apply Take.there | apply Take.app)) ?_ | refine Sub.takeE (by repeat (first | exact TakeE.here | apply TakeE.there | apply TakeE.app)) ?_ | exact Sub.nil _ | apply Sub.drop | apply Sub.dropE)) ?_
  intro s hs9
  obtain ⟨i, cur⟩ := s
  dsimp only at hs9 ⊢
  obtain ⟨hi1, hi2, hcl, hst, hin, hsr⟩ := hs9
  refine aw_seq ?_
  refine aw_seq_region ?_
  refine sr_x rfl (wtd_none rfl) rfl (Rd.x (x_move rfl)) ?_
  refine sr_x rfl (wtd_none rfl) rfl (Rd.x (x_move rfl)) ?_
  refine sr_cmp rfl (wtd_none rfl) rfl (Rd.x (x_lt rfl rfl)) (fun h1 => ?_) (fun h1 => ?_)
  · refine sr_nil ?_
    refine aw_keep (keep_cons (t := 0) rfl (keep_cons (t := 1) rfl (keep_cons (t := 2) rfl (keep_cons (t := 3) rfl (keep_cons (t := 8) rfl (keep_cons (t := 12) rfl (keep_cons (t := 13) rfl (keep_cons (t := 14) rfl keep_nil)))))))) ?_
    refine aw_true rfl ?_
    refine aw_skip ?_
    show AW _ _ _ _ _ _ _
    refine aw_seq ?_
    refine aw_block ?_
    refine aw_seq_region ?_
    refine sr_x rfl (wtd_none rfl) rfl (Rd.x (x_move rfl)) ?_
    refine sr_x rfl (wtd_none rfl) rfl (Rd.x (x_assign rfl)) ?_
    refine sr_nil ?_
    refine aw_keep (keep_cons (t := 0) rfl (keep_cons (t := 1) rfl (keep_cons (t := 2) rfl (keep_cons (t := 3) rfl (keep_cons (t := 8) rfl (keep_cons (t := 9) rfl (keep_cons (t := 12) rfl (keep_cons (t := 13) rfl (keep_cons (t := 14) rfl (keep_cons (t := 17) rfl keep_nil)))))))))) ?_
    refine aw_block ?_
    refine aw_loop (ι := SortG WA) (fun s => a ≤ s.k ∧ s.k ≤ i ∧ s.W.length = n ∧ Mv cur (rotF s.k i (i + 1)) s.W ∧ ∀ h, s.k ≤ h → h < i → c (gd cur i) (gd cur h) < 0) (fun s => [(0, .slice (some ⟨b, 0, none⟩) n cap), (1, .int .i64 a), (2, .int .i64 e), (3, .func (.func 70) #[] #[.pointer (some ⟨q1, 0, none⟩), .pointer (some ⟨q2, 0, none⟩)]), (8, .int .i64 i), (9, .int .i64 s.k)]) (fun s => (b, .cells ((s.W).flatMap WA.cells ++ post).toArray 77 (0, 0)) :: G) (fun s => s.k) ⟨i, cur⟩ (⟨by dsimp only; omega, Nat.le_refl _, hcl, Mv.refl _ (rotF_self i), fun h q1 q2 => by dsimp only at q1; omega⟩) (by repeat (first | exact keep_nil | refine keep_cons rfl ?_)) (by repeat (first | exact Sub.refl _ | refine Sub.take (by repeat (first | exact Take.here | apply Take.there | apply Take.app)) ?_ | refine Sub.takeE (by repeat (first | exact TakeE.here | apply TakeE.there | apply TakeE.app)) ?_ | exact Sub.nil _ | apply Sub.drop | apply Sub.dropE)) ?_
    intro s hs8
    obtain ⟨j, cur2⟩ := s
    dsimp only at hs8 ⊢
    obtain ⟨hj1, hj2, hcl2, hmv2, hlt2⟩ := hs8
    refine aw_seq ?_
    refine aw_seq_dr ⟨_, 17, 53, [[], [], [0, 1], [0, 1, 2], [0, 1, 2, 3], [0, 1, 2, 3], [0, 1, 2, 3], [0, 1, 2, 3, 5, 6], [0, 1, 2, 3, 5, 6, 7], [0, 1, 2, 3], [0, 1, 2, 3], [0, 1, 2, 3, 10], [0, 1, 2, 3, 9, 10, 11], [0, 1, 2, 3, 9, 10, 11, 12], [0, 1, 2, 3, 4, 5, 6, 7, 8, 9, 10, 11, 12, 13], [0, 1, 2, 3, 4, 5, 6, 7, 8, 9, 10, 11, 12, 13, 14], [0, 1, 2, 3, 4, 5, 6, 7, 8, 9, 10, 11, 12, 13, 14, 15]], [.light, .light, .light, .light, .light, .light, .light, .light, .mem, .light, .light, .light, .light, .mem, .call, .light, .light]⟩ (by kernel_rfl) rfl rfl mix ?_
    refine dr_light rfl rfl (wtd_none rfl) (x_move rfl) ?_
    refine dr_light rfl rfl (wtd_none rfl) (x_move rfl) ?_
    refine dr_cmp rfl rfl (wtd_none rfl) (x_gt rfl rfl) (fun h2 => ?_) (fun h2 => ?_)
    · refine dr_light rfl rfl (wtd_none rfl) (x_move rfl) ?_
      refine dr_light rfl rfl (wtd_yes rfl rfl rfl) (x_move rfl) ?_
      refine dr_light rfl rfl (wtd_yes rfl rfl rfl) (x_move rfl) ?_
      refine dr_light rfl rfl (wtd_yes rfl rfl rfl) (x_move rfl) ?_
      refine dr_light rfl rfl (wtd_yes rfl rfl rfl) (x_indexAddrN (j) Try.underlying72 sz77 rfl rfl rfl (by omega) (by omega)) ?_
      refine dr_mem0 rfl rfl (wtd_yes rfl rfl rfl) (x_loadN ag77 sz77 rfl ((cells_flat0 (n := 11) (enc := WA.cells) (fun _ => rfl) (xs := cur2) (post := post) (show (b, Obj.cells ((cur2).flatMap WA.cells ++ post).toArray 77 (0, 0)) ∈ _ from (by repeat (first | exact List.mem_cons_self | apply List.mem_cons_of_mem | apply List.mem_append_right))) (gd_some (by omega)))) rfl) ?_
      refine dr_light rfl rfl (wtd_yes rfl rfl rfl) (x_move rfl) ?_
      refine dr_light rfl rfl (wtd_yes rfl rfl rfl) (x_move rfl) ?_
      refine dr_light rfl rfl (wtd_yes rfl rfl rfl) (x_cast (u := .int .i64 ((j - 1 : Nat) : Int)) (x_sub' rfl rfl (i64w (by omega) (by omega))) (by congr 1; omega)) ?_
      refine dr_light rfl rfl (wtd_yes rfl rfl rfl) (x_indexAddrN (j - 1) Try.underlying72 sz77 rfl rfl rfl (by omega) (by omega)) ?_
      refine dr_mem0 rfl rfl (wtd_yes rfl rfl rfl) (x_loadN ag77 sz77 rfl ((cells_flat0 (n := 11) (enc := WA.cells) (fun _ => rfl) (xs := cur2) (post := post) (show (b, Obj.cells ((cur2).flatMap WA.cells ++ post).toArray 77 (0, 0)) ∈ _ from (by repeat (first | exact List.mem_cons_self | apply List.mem_cons_of_mem | apply List.mem_append_right))) (gd_some (by omega)))) rfl) ?_
      refine dr_callq0 rfl rfl (wtd_yes rfl rfl rfl) (opS_F rfl rfl rfl rfl cl70 ((hcmp (gd cur2 j) (gd cur2 (j - 1)) _ (by repeat (first | exact Sub.refl _ | apply Sub.drop | apply Sub.dropE))))) (⟨_, rfl⟩) ?_
      rintro _ rfl
      refine dr_cmp rfl rfl (wtd_yes rfl rfl rfl) (x_lt rfl rfl) (fun h3 => ?_) (fun h3 => ?_)
      · refine dr_light rfl rfl (wtd_none rfl) (x_pick_t rfl rfl rfl) ?_
        refine dr_nil0 ?_
        refine aw_keep (keep_cons (t := 0) rfl (keep_cons (t := 1) rfl (keep_cons (t := 2) rfl (keep_cons (t := 3) rfl (keep_cons (t := 8) rfl (keep_cons (t := 9) rfl (keep_cons (t := 18) rfl (keep_cons (t := 19) rfl (keep_cons (t := 20) rfl (keep_cons (t := 21) rfl (keep_cons (t := 22) rfl (keep_cons (t := 23) rfl (keep_cons (t := 24) rfl (keep_cons (t := 25) rfl (keep_cons (t := 26) rfl (keep_cons (t := 27) rfl (keep_cons (t := 28) rfl (keep_cons (t := 29) rfl (keep_cons (t := 30) rfl (keep_cons (t := 31) rfl (keep_cons (t := 32) rfl (keep_cons (t := 33) rfl (keep_cons (t := 34) rfl keep_nil))))))))))))))))))))))) ?_
        refine aw_true rfl ?_
        refine aw_skip ?_
        show AW _ _ _ _ _ _ _
        refine aw_seq ?_
        refine aw_block ?_
        refine aw_dr ⟨_, 18, 53, [[], [], [], [], [3], [], [], [6], [5, 6, 7], [5, 6, 7, 8], [], [], [10, 11], [10, 11, 12], [0, 1, 5, 6, 7, 8, 9, 10, 11, 12, 13], [0, 1, 5, 6, 7, 8, 9, 10, 11, 12, 13, 14], [0, 1, 2, 3, 4, 5, 6, 7, 8, 9, 10, 11, 12, 13, 14, 15], [0, 1, 2, 3, 4, 5, 6, 7, 8, 9, 10, 11, 12, 13, 14, 15, 16]], [.light, .light, .light, .light, .light, .light, .light, .light, .light, .mem, .light, .light, .light, .mem, .light, .eff, .light, .eff]⟩ (by kernel_rfl) rfl rfl mix ?_
        refine dr_light rfl rfl (wtd_none rfl) (x_move rfl) ?_
        refine dr_light rfl rfl (wtd_none rfl) (x_move rfl) ?_
        refine dr_light rfl rfl (wtd_none rfl) (x_move rfl) ?_
        refine dr_light rfl rfl (wtd_none rfl) (x_move rfl) ?_
        refine dr_light rfl rfl (wtd_none rfl) (x_cast (u := .int .i64 ((j - 1 : Nat) : Int)) (x_sub' rfl rfl (i64w (by omega) (by omega))) (by congr 1; omega)) ?_
        refine dr_light rfl rfl (wtd_none rfl) (x_move rfl) ?_
        refine dr_light rfl rfl (wtd_none rfl) (x_move rfl) ?_
        refine dr_light rfl rfl (wtd_none rfl) (x_cast (u := .int .i64 ((j - 1 : Nat) : Int)) (x_sub' rfl rfl (i64w (by omega) (by omega))) (by congr 1; omega)) ?_
        refine dr_light rfl rfl (wtd_none rfl) (x_indexAddrN (j - 1) Try.underlying72 sz77 rfl rfl rfl (by omega) (by omega)) ?_
        refine dr_mem0 rfl rfl (wtd_none rfl) (x_loadN ag77 sz77 rfl ((cells_flat0 (n := 11) (enc := WA.cells) (fun _ => rfl) (xs := cur2) (post := post) (show (b, Obj.cells ((cur2).flatMap WA.cells ++ post).toArray 77 (0, 0)) ∈ _ from (by repeat (first | exact List.mem_cons_self | apply List.mem_cons_of_mem | apply List.mem_append_right))) (gd_some (by omega)))) rfl) ?_
        refine dr_light rfl rfl (wtd_none rfl) (x_move rfl) ?_
        refine dr_light rfl rfl (wtd_none rfl) (x_move rfl) ?_
        refine dr_light rfl rfl (wtd_none rfl) (x_indexAddrN (j) Try.underlying72 sz77 rfl rfl rfl (by omega) (by omega)) ?_
        refine dr_mem0 rfl rfl (wtd_none rfl) (x_loadN ag77 sz77 rfl ((cells_flat0 (n := 11) (enc := WA.cells) (fun _ => rfl) (xs := cur2) (post := post) (show (b, Obj.cells ((cur2).flatMap WA.cells ++ post).toArray 77 (0, 0)) ∈ _ from (by repeat (first | exact List.mem_cons_self | apply List.mem_cons_of_mem | apply List.mem_append_right))) (gd_some (by omega)))) rfl) ?_
        refine dr_light rfl rfl (wtd_none rfl) (x_indexAddrN (j) Try.underlying72 sz77 rfl rfl rfl (by omega) (by omega)) ?_
        refine dr_store0 rfl rfl (wtd_none rfl) (x_store sz77 rfl rfl rfl rfl rfl (by repeat (first | exact Repl.here | apply Repl.there | apply Repl.app)) (spl_flat0 (n := 11) (enc := WA.cells) (fun _ => rfl) (xs := cur2) (post := post) (i := (j)) (x' := gd cur2 (j - 1)) (by first | omega | (rw [List.length_set]; omega)))) (by first | rfl | simp [keys_append, keys_cons]) ?_
        refine dr_light rfl rfl (wtd_none rfl) (x_indexAddrN (j - 1) Try.underlying72 sz77 rfl rfl rfl (by omega) (by omega)) ?_
        refine dr_store0 rfl rfl (wtd_none rfl) (x_store sz77 rfl rfl rfl rfl rfl (by repeat (first | exact Repl.here | apply Repl.there | apply Repl.app)) (spl_flat0 (n := 11) (enc := WA.cells) (fun _ => rfl) (xs := ((cur2).set (j) (gd cur2 (j - 1)))) (post := post) (i := (j - 1)) (x' := gd cur2 (j)) (by first | omega | (rw [List.length_set]; omega)))) (by first | rfl | simp [keys_append, keys_cons]) ?_
        refine dr_nil0 ?_
        show AW _ _ _ _ _ _ _
        refine aw_region ?_
        refine sr_x rfl (wtd_none rfl) rfl (Rd.x (x_move rfl)) ?_
        refine sr_x rfl (wtd_none rfl) rfl (Rd.x (x_cast (u := .int .i64 ((j - 1 : Nat) : Int)) (x_sub' rfl rfl (i64w (by omega) (by omega))) (by congr 1; omega))) ?_
        refine sr_x rfl (wtd_none rfl) rfl (Rd.x (x_assign rfl)) ?_
        refine sr_nil ?_
        show ∃ s', _ ∧ _ ∧ _ ∧ _
        exact ⟨⟨j - 1, sw cur2 j (j - 1)⟩, ⟨by dsimp only; omega, by dsimp only; omega, sw_len.trans hcl2, insr_step (by omega) hj2 (by omega) hlt2 hmv2 (by assumption)⟩, by dsimp only; omega, (by repeat (first | exact keep_nil | refine keep_cons rfl ?_)), (by repeat (first | exact Sub.refl _ | refine Sub.take (by repeat (first | exact Take.here | apply Take.there | apply Take.app)) ?_ | refine Sub.takeE (by repeat (first | exact TakeE.here | apply TakeE.there | apply TakeE.app)) ?_ | exact Sub.nil _ | apply Sub.drop | apply Sub.dropE))⟩
      · refine dr_light rfl rfl (wtd_none rfl) (x_pick_t rfl rfl rfl) ?_
        refine dr_nil0 ?_
        refine aw_keep (keep_cons (t := 0) rfl (keep_cons (t := 1) rfl (keep_cons (t := 2) rfl (keep_cons (t := 3) rfl (keep_cons (t := 8) rfl (keep_cons (t := 9) rfl (keep_cons (t := 18) rfl (keep_cons (t := 19) rfl (keep_cons (t := 20) rfl (keep_cons (t := 21) rfl (keep_cons (t := 22) rfl (keep_cons (t := 23) rfl (keep_cons (t := 24) rfl (keep_cons (t := 25) rfl (keep_cons (t := 26) rfl (keep_cons (t := 27) rfl (keep_cons (t := 28) rfl (keep_cons (t := 29) rfl (keep_cons (t := 30) rfl (keep_cons (t := 31) rfl (keep_cons (t := 32) rfl (keep_cons (t := 33) rfl (keep_cons (t := 34) rfl keep_nil))))))))))))))))))))))) ?_
        refine aw_false rfl ?_
        refine aw_exit ?_
        show AW _ _ _ _ _ _ _
        refine aw_region ?_
        refine sr_x rfl (wtd_none rfl) rfl (Rd.x (x_move rfl)) ?_
        refine sr_x rfl (wtd_none rfl) rfl (Rd.x (x_add' rfl rfl (i64w (by omega) (by omega)))) ?_
        refine sr_x rfl (wtd_none rfl) rfl (Rd.x (x_assign rfl)) ?_
        refine sr_nil ?_
        show ∃ s', _ ∧ _ ∧ _ ∧ _
        first | exact ⟨⟨i + 1, cur2⟩, ⟨by dsimp only; omega, .inl (by dsimp only; omega), hcl2, hst.trans (insr_end hsw hj1 hj2 (by omega) hsr hlt2 hmv2 (fun _ => by assumption)).1, hin.trans ((insr_end hsw hj1 hj2 (by omega) hsr hlt2 hmv2 (fun _ => by assumption)).2.1.wide (Nat.le_refl _) (by omega)), (insr_end hsw hj1 hj2 (by omega) hsr hlt2 hmv2 (fun _ => by assumption)).2.2⟩, by dsimp only; omega, (by repeat (first | exact keep_nil | refine keep_cons rfl ?_)), (by repeat (first | exact Sub.refl _ | refine Sub.take (by repeat (first | exact Take.here | apply Take.there | apply Take.app)) ?_ | refine Sub.takeE (by repeat (first | exact TakeE.here | apply TakeE.there | apply TakeE.app)) ?_ | exact Sub.nil _ | apply Sub.drop | apply Sub.dropE))⟩ | exact ⟨⟨i + 1, cur2⟩, ⟨by dsimp only; omega, .inl (by dsimp only; omega), hcl2, hst.trans (insr_end hsw hj1 hj2 (by omega) hsr hlt2 hmv2 (fun h => by omega)).1, hin.trans ((insr_end hsw hj1 hj2 (by omega) hsr hlt2 hmv2 (fun h => by omega)).2.1.wide (Nat.le_refl _) (by omega)), (insr_end hsw hj1 hj2 (by omega) hsr hlt2 hmv2 (fun h => by omega)).2.2⟩, by dsimp only; omega, (by repeat (first | exact keep_nil | refine keep_cons rfl ?_)), (by repeat (first | exact Sub.refl _ | refine Sub.take (by repeat (first | exact Take.here | apply Take.there | apply Take.app)) ?_ | refine Sub.takeE (by repeat (first | exact TakeE.here | apply TakeE.there | apply TakeE.app)) ?_ | exact Sub.nil _ | apply Sub.drop | apply Sub.dropE))⟩
    · refine dr_light rfl rfl (wtd_none rfl) (x_move rfl) ?_
      refine dr_skip rfl (wtd_no rfl rfl rfl rfl) ?_
      refine dr_skip rfl (wtd_no rfl rfl rfl rfl) ?_
      refine dr_skip rfl (wtd_no rfl rfl rfl rfl) ?_
      refine dr_skip rfl (wtd_no rfl rfl rfl rfl) ?_
      refine dr_skip rfl (wtd_no rfl rfl rfl rfl) ?_
      refine dr_skip rfl (wtd_no rfl rfl rfl rfl) ?_
      refine dr_skip rfl (wtd_no rfl rfl rfl rfl) ?_
      refine dr_skip rfl (wtd_no rfl rfl rfl rfl) ?_
      refine dr_skip rfl (wtd_no rfl rfl rfl rfl) ?_
      refine dr_skip rfl (wtd_no rfl rfl rfl rfl) ?_
      refine dr_skip rfl (wtd_no rfl rfl rfl rfl) ?_
      refine dr_skip rfl (wtd_no rfl rfl rfl rfl) ?_
      refine dr_light rfl rfl (wtd_none rfl) (x_pick_f rfl rfl rfl) ?_
      refine dr_nil0 ?_
      refine aw_keep (keep_cons (t := 0) rfl (keep_cons (t := 1) rfl (keep_cons (t := 2) rfl (keep_cons (t := 3) rfl (keep_cons (t := 8) rfl (keep_cons (t := 9) rfl (keep_cons (t := 18) rfl (keep_cons (t := 19) rfl (keep_cons (t := 20) rfl (keep_cons (t := 21) rfl (keep_cons (t := 22) rfl (keep_cons (t := 23) rfl (keep_cons (t := 24) rfl (keep_cons (t := 25) rfl (keep_cons (t := 26) rfl (keep_cons (t := 27) rfl (keep_cons (t := 28) rfl (keep_cons (t := 29) rfl (keep_cons (t := 30) rfl (keep_cons (t := 31) rfl (keep_cons (t := 32) rfl (keep_cons (t := 33) rfl (keep_cons (t := 34) rfl keep_nil))))))))))))))))))))))) ?_
      refine aw_false rfl ?_
      refine aw_exit ?_
      show AW _ _ _ _ _ _ _
      refine aw_region ?_
      refine sr_x rfl (wtd_none rfl) rfl (Rd.x (x_move rfl)) ?_
      refine sr_x rfl (wtd_none rfl) rfl (Rd.x (x_add' rfl rfl (i64w (by omega) (by omega)))) ?_
      refine sr_x rfl (wtd_none rfl) rfl (Rd.x (x_assign rfl)) ?_
      refine sr_nil ?_
      show ∃ s', _ ∧ _ ∧ _ ∧ _
      first | exact ⟨⟨i + 1, cur2⟩, ⟨by dsimp only; omega, .inl (by dsimp only; omega), hcl2, hst.trans (insr_end hsw hj1 hj2 (by omega) hsr hlt2 hmv2 (fun _ => by assumption)).1, hin.trans ((insr_end hsw hj1 hj2 (by omega) hsr hlt2 hmv2 (fun _ => by assumption)).2.1.wide (Nat.le_refl _) (by omega)), (insr_end hsw hj1 hj2 (by omega) hsr hlt2 hmv2 (fun _ => by assumption)).2.2⟩, by dsimp only; omega, (by repeat (first | exact keep_nil | refine keep_cons rfl ?_)), (by repeat (first | exact Sub.refl _ | refine Sub.take (by repeat (first | exact Take.here | apply Take.there | apply Take.app)) ?_ | refine Sub.takeE (by repeat (first | exact TakeE.here | apply TakeE.there | apply TakeE.app)) ?_ | exact Sub.nil _ | apply Sub.drop | apply Sub.dropE))⟩ | exact ⟨⟨i + 1, cur2⟩, ⟨by dsimp only; omega, .inl (by dsimp only; omega), hcl2, hst.trans (insr_end hsw hj1 hj2 (by omega) hsr hlt2 hmv2 (fun h => by omega)).1, hin.trans ((insr_end hsw hj1 hj2 (by omega) hsr hlt2 hmv2 (fun h => by omega)).2.1.wide (Nat.le_refl _) (by omega)), (insr_end hsw hj1 hj2 (by omega) hsr hlt2 hmv2 (fun h => by omega)).2.2⟩, by dsimp only; omega, (by repeat (first | exact keep_nil | refine keep_cons rfl ?_)), (by repeat (first | exact Sub.refl _ | refine Sub.take (by repeat (first | exact Take.here | apply Take.there | apply Take.app)) ?_ | refine Sub.takeE (by repeat (first | exact TakeE.here | apply TakeE.there | apply TakeE.app)) ?_ | exact Sub.nil _ | apply Sub.drop | apply Sub.dropE))⟩
  · refine sr_nil ?_
    refine aw_keep (keep_cons (t := 0) rfl (keep_cons (t := 1) rfl (keep_cons (t := 2) rfl (keep_cons (t := 3) rfl (keep_cons (t := 8) rfl (keep_cons (t := 12) rfl (keep_cons (t := 13) rfl (keep_cons (t := 14) rfl keep_nil)))))))) ?_
    refine aw_false rfl ?_
    refine aw_exit ?_
    show ∃ v H2, ResV _ _ _ _ _ _ v ∧ Sub H2 _ ∧ _
    exact ⟨_, _, resV rfl .nil, Sub.refl _, cur, ⟨hst, hin, hsr.up (by omega)⟩, rfl, rfl⟩
set_option maxRecDepth 100000 in
set_option maxHeartbeats 8000000 in
theorem asSmW_s (b cap n : Nat) (W : List WA) (post : List Value) (G : SHeap) (hl : W.length = n) (hn : n ≤ 100000) (hcap : n ≤ cap) (hcb : cap ≤ 9223372036854775807) (a m e : Nat) (h1 : a < m) (h2 : m < e) (h3 : e ≤ n) (c : WA → WA → Int) (hcmp : ∀ x y V, Sub G V → AC Try.prog W0 70 [WA.v x, WA.v y, .pointer (some ⟨q1, 0, none⟩), .pointer (some ⟨q2, 0, none⟩)] V (fun v H' => v = .int .i64 (c x y) ∧ H' = V)) (hsw : Swo c) (hA : SrtI c W a m) (hB : SrtI c W m e) (ih : ∀ (W1 : List WA) (a1 m1 e1 : Nat), W1.length = n → e1 - a1 < e - a → a1 < m1 → m1 < e1 → e1 ≤ n → SrtI c W1 a1 m1 → SrtI c W1 m1 e1 → AC Try.prog W0 82 [.slice (some ⟨b, 0, none⟩) n cap, .int .i64 (a1 : Nat), .int .i64 (m1 : Nat), .int .i64 (e1 : Nat), .func (.func 70) #[] #[.pointer (some ⟨q1, 0, none⟩), .pointer (some ⟨q2, 0, none⟩)]] ((b, .cells ((W1).flatMap WA.cells ++ post).toArray 77 (0, 0)) :: G) (fun v H' => ∃ W', Mg c W1 a1 e1 W' ∧ v = .tuple #[] ∧ H' = (b, .cells ((W').flatMap WA.cells ++ post).toArray 77 (0, 0)) :: G)) : AC Try.prog W0 82 [.slice (some ⟨b, 0, none⟩) n cap, .int .i64 a, .int .i64 m, .int .i64 e, .func (.func 70) #[] #[.pointer (some ⟨q1, 0, none⟩), .pointer (some ⟨q2, 0, none⟩)]] ((b, .cells ((W).flatMap WA.cells ++ post).toArray 77 (0, 0)) :: G) (fun v H' => ∃ W', Mg c W a e W' ∧ v = .tuple #[] ∧ H' = (b, .cells ((W').flatMap WA.cells ++ post).toArray 77 (0, 0)) :: G) := by
  refine ac_of Try.func82 rfl rfl rfl ?_
  refine aw_seq ?_
  refine aw_seq_region ?_
  refine sr_x rfl (wtd_none rfl) rfl (Rd.x (x_move rfl)) ?_
  refine sr_x rfl (wtd_none rfl) rfl (Rd.x (x_move rfl)) ?_
  refine sr_x rfl (wtd_none rfl) rfl (Rd.x (x_sub' rfl rfl (i64w (by omega) (by omega)))) ?_
  refine sr_cmp rfl (wtd_none rfl) rfl (Rd.x (x_eq rfl rfl)) (fun h1 => ?_) (fun h1 => ?_)
  · refine sr_nil ?_
    refine aw_keep (keep_cons (t := 0) rfl (keep_cons (t := 1) rfl (keep_cons (t := 2) rfl (keep_cons (t := 3) rfl (keep_cons (t := 4) rfl (keep_cons (t := 28) rfl keep_nil)))))) ?_
    refine aw_true rfl ?_
    refine aw_seq_region ?_
    refine sr_x rfl (wtd_none rfl) rfl (Rd.x (x_move rfl)) ?_
    refine sr_x rfl (wtd_none rfl) rfl (Rd.x (x_assign rfl)) ?_
    refine sr_nil ?_
    refine aw_keep (keep_cons (t := 0) rfl (keep_cons (t := 1) rfl (keep_cons (t := 2) rfl (keep_cons (t := 3) rfl (keep_cons (t := 4) rfl (keep_cons (t := 10) rfl keep_nil)))))) ?_
    refine aw_seq_region ?_
    refine sr_x rfl (wtd_none rfl) rfl (Rd.x (x_move rfl)) ?_
    refine sr_x rfl (wtd_none rfl) rfl (Rd.x (x_assign rfl)) ?_
    refine sr_nil ?_
    refine aw_keep (keep_cons (t := 0) rfl (keep_cons (t := 1) rfl (keep_cons (t := 2) rfl (keep_cons (t := 3) rfl (keep_cons (t := 4) rfl (keep_cons (t := 10) rfl (keep_cons (t := 11) rfl keep_nil))))))) ?_
    refine aw_seq ?_
    refine aw_block ?_
    refine aw_loop (ι := SeaG) (fun s => Sea (fun h => ¬ c (gd W h) (gd W a) < 0) m e s.i s.j) (fun s => [(0, .slice (some ⟨b, 0, none⟩) n cap), (1, .int .i64 a), (4, .func (.func 70) #[] #[.pointer (some ⟨q1, 0, none⟩), .pointer (some ⟨q2, 0, none⟩)]), (10, .int .i64 s.i), (11, .int .i64 s.j)]) (fun _ => (b, .cells ((W).flatMap WA.cells ++ post).toArray 77 (0, 0)) :: G) (fun s => s.j - s.i) ⟨m, e⟩ (Sea.start (by omega)) (by repeat (first | exact keep_nil | refine keep_cons rfl ?_)) (by repeat (first | exact Sub.refl _ | refine Sub.take (by repeat (first | exact Take.here | apply Take.there | apply Take.app)) ?_ | refine Sub.takeE (by repeat (first | exact TakeE.here | apply TakeE.there | apply TakeE.app)) ?_ | exact Sub.nil _ | apply Sub.drop | apply Sub.dropE)) ?_
    intro s hs9
    obtain ⟨i, j⟩ := s
    dsimp only at hs9 ⊢
    have hse := hs9
    obtain ⟨hb1, hb2, hb3, hb4, hb5⟩ := hs9
    refine aw_seq ?_
    refine aw_seq_region ?_
    refine sr_x rfl (wtd_none rfl) rfl (Rd.x (x_move rfl)) ?_
    refine sr_x rfl (wtd_none rfl) rfl (Rd.x (x_move rfl)) ?_
    refine sr_cmp rfl (wtd_none rfl) rfl (Rd.x (x_lt rfl rfl)) (fun h2 => ?_) (fun h2 => ?_)
    · refine sr_nil ?_
      refine aw_keep (keep_cons (t := 0) rfl (keep_cons (t := 1) rfl (keep_cons (t := 4) rfl (keep_cons (t := 10) rfl (keep_cons (t := 11) rfl (keep_cons (t := 31) rfl (keep_cons (t := 32) rfl (keep_cons (t := 33) rfl keep_nil)))))))) ?_
      refine aw_true rfl ?_
      refine aw_skip ?_
      show AW _ _ _ _ _ _ _
      refine aw_block ?_
      refine aw_seq_region ?_
      refine sr_x rfl (wtd_none rfl) rfl (Rd.x (x_move rfl)) ?_
      refine sr_x rfl (wtd_none rfl) rfl (Rd.x (x_move rfl)) ?_
      refine sr_x rfl (wtd_none rfl) rfl (Rd.x (x_add' rfl rfl (i64w (by omega) (by omega)))) ?_
      refine sr_x rfl (wtd_none rfl) rfl (Rd.x (x_conv' Try.underlying3 Try.underlying116 rfl (u64w (by omega) (by omega)))) ?_
      refine sr_x rfl (wtd_none rfl) rfl (Rd.x (x_cast (x_shr rfl rfl (by omega)) (shrH (i) (j)))) ?_
      refine sr_x rfl (wtd_none rfl) rfl (Rd.x (x_conv' Try.underlying116 Try.underlying3 rfl (i64w (by omega) (by omega)))) ?_
      refine sr_x rfl (wtd_none rfl) rfl (Rd.x (x_assign rfl)) ?_
      refine sr_nil ?_
      refine aw_keep (keep_cons (t := 0) rfl (keep_cons (t := 1) rfl (keep_cons (t := 4) rfl (keep_cons (t := 10) rfl (keep_cons (t := 11) rfl (keep_cons (t := 12) rfl (keep_cons (t := 31) rfl (keep_cons (t := 32) rfl (keep_cons (t := 33) rfl (keep_cons (t := 34) rfl (keep_cons (t := 35) rfl (keep_cons (t := 36) rfl (keep_cons (t := 37) rfl (keep_cons (t := 38) rfl (keep_cons (t := 39) rfl keep_nil))))))))))))))) ?_
      refine aw_seq_dr ⟨_, 11, 220, [[], [], [], [1, 2], [1, 2, 3], [], [], [5, 6], [5, 6, 7], [0, 1, 2, 3, 4, 5, 6, 7, 8], [0, 1, 2, 3, 4, 5, 6, 7, 8, 9]], [.light, .light, .light, .light, .mem, .light, .light, .light, .mem, .call, .light]⟩ (by kernel_rfl) rfl rfl mix ?_
      refine dr_light rfl rfl (wtd_none rfl) (x_move rfl) ?_
      refine dr_light rfl rfl (wtd_none rfl) (x_move rfl) ?_
      refine dr_light rfl rfl (wtd_none rfl) (x_move rfl) ?_
      refine dr_light rfl rfl (wtd_none rfl) (x_indexAddrN ((i + j) / 2) Try.underlying72 sz77 rfl rfl rfl (by omega) (by omega)) ?_
      refine dr_mem0 rfl rfl (wtd_none rfl) (x_loadN ag77 sz77 rfl ((cells_flat0 (n := 11) (enc := WA.cells) (fun _ => rfl) (xs := W) (post := post) (show (b, Obj.cells ((W).flatMap WA.cells ++ post).toArray 77 (0, 0)) ∈ _ from (by repeat (first | exact List.mem_cons_self | apply List.mem_cons_of_mem | apply List.mem_append_right))) (gd_some (by omega)))) rfl) ?_
      refine dr_light rfl rfl (wtd_none rfl) (x_move rfl) ?_
      refine dr_light rfl rfl (wtd_none rfl) (x_move rfl) ?_
      refine dr_light rfl rfl (wtd_none rfl) (x_indexAddrN (a) Try.underlying72 sz77 rfl rfl rfl (by omega) (by omega)) ?_
      refine dr_mem0 rfl rfl (wtd_none rfl) (x_loadN ag77 sz77 rfl ((cells_flat0 (n := 11) (enc := WA.cells) (fun _ => rfl) (xs := W) (post := post) (show (b, Obj.cells ((W).flatMap WA.cells ++ post).toArray 77 (0, 0)) ∈ _ from (by repeat (first | exact List.mem_cons_self | apply List.mem_cons_of_mem | apply List.mem_append_right))) (gd_some (by omega)))) rfl) ?_
      refine dr_callq0 rfl rfl (wtd_none rfl) (opS_F rfl rfl rfl rfl cl70 ((hcmp (gd W ((i + j) / 2)) (gd W a) _ (by repeat (first | exact Sub.refl _ | apply Sub.drop | apply Sub.dropE))))) (⟨_, rfl⟩) ?_
      rintro _ rfl
      refine dr_cmp rfl rfl (wtd_none rfl) (x_lt rfl rfl) (fun h3 => ?_) (fun h3 => ?_)
      · refine dr_nil0 ?_
        refine aw_keep (keep_cons (t := 0) rfl (keep_cons (t := 1) rfl (keep_cons (t := 4) rfl (keep_cons (t := 10) rfl (keep_cons (t := 11) rfl (keep_cons (t := 12) rfl (keep_cons (t := 31) rfl (keep_cons (t := 32) rfl (keep_cons (t := 33) rfl (keep_cons (t := 34) rfl (keep_cons (t := 35) rfl (keep_cons (t := 36) rfl (keep_cons (t := 37) rfl (keep_cons (t := 38) rfl (keep_cons (t := 39) rfl (keep_cons (t := 40) rfl (keep_cons (t := 41) rfl (keep_cons (t := 42) rfl (keep_cons (t := 43) rfl (keep_cons (t := 44) rfl (keep_cons (t := 45) rfl (keep_cons (t := 46) rfl (keep_cons (t := 47) rfl (keep_cons (t := 48) rfl (keep_cons (t := 49) rfl (keep_cons (t := 50) rfl keep_nil)))))))))))))))))))))))))) ?_
        refine aw_true rfl ?_
        refine aw_region ?_
        refine sr_x rfl (wtd_none rfl) rfl (Rd.x (x_move rfl)) ?_
        refine sr_x rfl (wtd_none rfl) rfl (Rd.x (x_add' rfl rfl (i64w (by omega) (by omega)))) ?_
        refine sr_x rfl (wtd_none rfl) rfl (Rd.x (x_assign rfl)) ?_
        refine sr_nil ?_
        show ∃ s', _ ∧ _ ∧ _ ∧ _
        first | exact ⟨⟨(i + j) / 2 + 1, j⟩, hse.right (mono_up hsw hB) (by omega) (fun h => h (by assumption)), by dsimp only; omega, (by repeat (first | exact keep_nil | refine keep_cons rfl ?_)), (by repeat (first | exact Sub.refl _ | refine Sub.take (by repeat (first | exact Take.here | apply Take.there | apply Take.app)) ?_ | refine Sub.takeE (by repeat (first | exact TakeE.here | apply TakeE.there | apply TakeE.app)) ?_ | exact Sub.nil _ | apply Sub.drop | apply Sub.dropE))⟩ | exact ⟨⟨i, (i + j) / 2⟩, hse.left (mono_up hsw hB) (by omega) (by assumption), by dsimp only; omega, (by repeat (first | exact keep_nil | refine keep_cons rfl ?_)), (by repeat (first | exact Sub.refl _ | refine Sub.take (by repeat (first | exact Take.here | apply Take.there | apply Take.app)) ?_ | refine Sub.takeE (by repeat (first | exact TakeE.here | apply TakeE.there | apply TakeE.app)) ?_ | exact Sub.nil _ | apply Sub.drop | apply Sub.dropE))⟩
      · refine dr_nil0 ?_
        refine aw_keep (keep_cons (t := 0) rfl (keep_cons (t := 1) rfl (keep_cons (t := 4) rfl (keep_cons (t := 10) rfl (keep_cons (t := 11) rfl (keep_cons (t := 12) rfl (keep_cons (t := 31) rfl (keep_cons (t := 32) rfl (keep_cons (t := 33) rfl (keep_cons (t := 34) rfl (keep_cons (t := 35) rfl (keep_cons (t := 36) rfl (keep_cons (t := 37) rfl (keep_cons (t := 38) rfl (keep_cons (t := 39) rfl (keep_cons (t := 40) rfl (keep_cons (t := 41) rfl (keep_cons (t := 42) rfl (keep_cons (t := 43) rfl (keep_cons (t := 44) rfl (keep_cons (t := 45) rfl (keep_cons (t := 46) rfl (keep_cons (t := 47) rfl (keep_cons (t := 48) rfl (keep_cons (t := 49) rfl (keep_cons (t := 50) rfl keep_nil)))))))))))))))))))))))))) ?_
        refine aw_false rfl ?_
        refine aw_region ?_
        refine sr_x rfl (wtd_none rfl) rfl (Rd.x (x_move rfl)) ?_
        refine sr_x rfl (wtd_none rfl) rfl (Rd.x (x_assign rfl)) ?_
        refine sr_nil ?_
        show ∃ s', _ ∧ _ ∧ _ ∧ _
        first | exact ⟨⟨(i + j) / 2 + 1, j⟩, hse.right (mono_up hsw hB) (by omega) (fun h => h (by assumption)), by dsimp only; omega, (by repeat (first | exact keep_nil | refine keep_cons rfl ?_)), (by repeat (first | exact Sub.refl _ | refine Sub.take (by repeat (first | exact Take.here | apply Take.there | apply Take.app)) ?_ | refine Sub.takeE (by repeat (first | exact TakeE.here | apply TakeE.there | apply TakeE.app)) ?_ | exact Sub.nil _ | apply Sub.drop | apply Sub.dropE))⟩ | exact ⟨⟨i, (i + j) / 2⟩, hse.left (mono_up hsw hB) (by omega) (by assumption), by dsimp only; omega, (by repeat (first | exact keep_nil | refine keep_cons rfl ?_)), (by repeat (first | exact Sub.refl _ | refine Sub.take (by repeat (first | exact Take.here | apply Take.there | apply Take.app)) ?_ | refine Sub.takeE (by repeat (first | exact TakeE.here | apply TakeE.there | apply TakeE.app)) ?_ | exact Sub.nil _ | apply Sub.drop | apply Sub.dropE))⟩
    · refine sr_nil ?_
      refine aw_keep (keep_cons (t := 0) rfl (keep_cons (t := 1) rfl (keep_cons (t := 4) rfl (keep_cons (t := 10) rfl (keep_cons (t := 11) rfl (keep_cons (t := 31) rfl (keep_cons (t := 32) rfl (keep_cons (t := 33) rfl keep_nil)))))))) ?_
      refine aw_false rfl ?_
      refine aw_exit ?_
      show AW _ _ _ _ _ _ _
      refine aw_seq ?_
      refine aw_seq_region ?_
      refine sr_x rfl (wtd_none rfl) rfl (Rd.x (x_move rfl)) ?_
      refine sr_x rfl (wtd_none rfl) rfl (Rd.x (x_assign rfl)) ?_
      refine sr_nil ?_
      refine aw_keep (keep_cons (t := 0) rfl (keep_cons (t := 1) rfl (keep_cons (t := 4) rfl (keep_cons (t := 10) rfl (keep_cons (t := 13) rfl keep_nil))))) ?_
      refine aw_block ?_
      refine aw_loop (ι := SortG WA) (fun s => a ≤ s.k ∧ s.k + 1 ≤ i ∧ s.W.length = n ∧ Mv W (rotF a (a + 1) (s.k + 1)) s.W) (fun s => [(0, .slice (some ⟨b, 0, none⟩) n cap), (10, .int .i64 i), (13, .int .i64 s.k)]) (fun s => (b, .cells ((s.W).flatMap WA.cells ++ post).toArray 77 (0, 0)) :: G) (fun s => i - s.k) ⟨a, W⟩ (⟨Nat.le_refl _, by dsimp only; omega, hl, Mv.refl _ (rotF_one a)⟩) (by repeat (first | exact keep_nil | refine keep_cons rfl ?_)) (by repeat (first | exact Sub.refl _ | refine Sub.take (by repeat (first | exact Take.here | apply Take.there | apply Take.app)) ?_ | refine Sub.takeE (by repeat (first | exact TakeE.here | apply TakeE.there | apply TakeE.app)) ?_ | exact Sub.nil _ | apply Sub.drop | apply Sub.dropE)) ?_
      intro s hs9
      obtain ⟨k, cur⟩ := s
      dsimp only at hs9 ⊢
      obtain ⟨hk1, hk2, hcl, hmv⟩ := hs9
      refine aw_seq ?_
      refine aw_seq_region ?_
      refine sr_x rfl (wtd_none rfl) rfl (Rd.x (x_move rfl)) ?_
      refine sr_x rfl (wtd_none rfl) rfl (Rd.x (x_move rfl)) ?_
      refine sr_x rfl (wtd_none rfl) rfl (Rd.x (x_sub' rfl rfl (i64w (by omega) (by omega)))) ?_
      refine sr_cmp rfl (wtd_none rfl) rfl (Rd.x (x_lt rfl rfl)) (fun h4 => ?_) (fun h4 => ?_)
      · refine sr_nil ?_
        refine aw_keep (keep_cons (t := 0) rfl (keep_cons (t := 10) rfl (keep_cons (t := 13) rfl (keep_cons (t := 55) rfl (keep_cons (t := 56) rfl (keep_cons (t := 57) rfl (keep_cons (t := 58) rfl keep_nil))))))) ?_
        refine aw_true rfl ?_
        refine aw_skip ?_
        show AW _ _ _ _ _ _ _
        refine aw_seq ?_
        refine aw_block ?_
        refine aw_dr ⟨_, 18, 220, [[], [], [], [], [3], [], [], [6], [5, 6, 7], [5, 6, 7, 8], [], [], [10, 11], [10, 11, 12], [0, 1, 5, 6, 7, 8, 9, 10, 11, 12, 13], [0, 1, 5, 6, 7, 8, 9, 10, 11, 12, 13, 14], [0, 1, 2, 3, 4, 5, 6, 7, 8, 9, 10, 11, 12, 13, 14, 15], [0, 1, 2, 3, 4, 5, 6, 7, 8, 9, 10, 11, 12, 13, 14, 15, 16]], [.light, .light, .light, .light, .light, .light, .light, .light, .light, .mem, .light, .light, .light, .mem, .light, .eff, .light, .eff]⟩ (by kernel_rfl) rfl rfl mix ?_
        refine dr_light rfl rfl (wtd_none rfl) (x_move rfl) ?_
        refine dr_light rfl rfl (wtd_none rfl) (x_move rfl) ?_
        refine dr_light rfl rfl (wtd_none rfl) (x_move rfl) ?_
        refine dr_light rfl rfl (wtd_none rfl) (x_move rfl) ?_
        refine dr_light rfl rfl (wtd_none rfl) (x_add' rfl rfl (i64w (by omega) (by omega))) ?_
        refine dr_light rfl rfl (wtd_none rfl) (x_move rfl) ?_
        refine dr_light rfl rfl (wtd_none rfl) (x_move rfl) ?_
        refine dr_light rfl rfl (wtd_none rfl) (x_add' rfl rfl (i64w (by omega) (by omega))) ?_
        refine dr_light rfl rfl (wtd_none rfl) (x_indexAddrN (k + 1) Try.underlying72 sz77 rfl rfl rfl (by omega) (by omega)) ?_
        refine dr_mem0 rfl rfl (wtd_none rfl) (x_loadN ag77 sz77 rfl ((cells_flat0 (n := 11) (enc := WA.cells) (fun _ => rfl) (xs := cur) (post := post) (show (b, Obj.cells ((cur).flatMap WA.cells ++ post).toArray 77 (0, 0)) ∈ _ from (by repeat (first | exact List.mem_cons_self | apply List.mem_cons_of_mem | apply List.mem_append_right))) (gd_some (by omega)))) rfl) ?_
        refine dr_light rfl rfl (wtd_none rfl) (x_move rfl) ?_
        refine dr_light rfl rfl (wtd_none rfl) (x_move rfl) ?_
        refine dr_light rfl rfl (wtd_none rfl) (x_indexAddrN (k) Try.underlying72 sz77 rfl rfl rfl (by omega) (by omega)) ?_
        refine dr_mem0 rfl rfl (wtd_none rfl) (x_loadN ag77 sz77 rfl ((cells_flat0 (n := 11) (enc := WA.cells) (fun _ => rfl) (xs := cur) (post := post) (show (b, Obj.cells ((cur).flatMap WA.cells ++ post).toArray 77 (0, 0)) ∈ _ from (by repeat (first | exact List.mem_cons_self | apply List.mem_cons_of_mem | apply List.mem_append_right))) (gd_some (by omega)))) rfl) ?_
        refine dr_light rfl rfl (wtd_none rfl) (x_indexAddrN (k) Try.underlying72 sz77 rfl rfl rfl (by omega) (by omega)) ?_
        refine dr_store0 rfl rfl (wtd_none rfl) (x_store sz77 rfl rfl rfl rfl rfl (by repeat (first | exact Repl.here | apply Repl.there | apply Repl.app)) (spl_flat0 (n := 11) (enc := WA.cells) (fun _ => rfl) (xs := cur) (post := post) (i := (k)) (x' := gd cur (k + 1)) (by first | omega | (rw [List.length_set]; omega)))) (by first | rfl | simp [keys_append, keys_cons]) ?_
        refine dr_light rfl rfl (wtd_none rfl) (x_indexAddrN (k + 1) Try.underlying72 sz77 rfl rfl rfl (by omega) (by omega)) ?_
        refine dr_store0 rfl rfl (wtd_none rfl) (x_store sz77 rfl rfl rfl rfl rfl (by repeat (first | exact Repl.here | apply Repl.there | apply Repl.app)) (spl_flat0 (n := 11) (enc := WA.cells) (fun _ => rfl) (xs := ((cur).set (k) (gd cur (k + 1)))) (post := post) (i := (k + 1)) (x' := gd cur (k)) (by first | omega | (rw [List.length_set]; omega)))) (by first | rfl | simp [keys_append, keys_cons]) ?_
        refine dr_nil0 ?_
        show AW _ _ _ _ _ _ _
        refine aw_region ?_
        refine sr_x rfl (wtd_none rfl) rfl (Rd.x (x_move rfl)) ?_
        refine sr_x rfl (wtd_none rfl) rfl (Rd.x (x_add' rfl rfl (i64w (by omega) (by omega)))) ?_
        refine sr_x rfl (wtd_none rfl) rfl (Rd.x (x_assign rfl)) ?_
        refine sr_nil ?_
        show ∃ s', _ ∧ _ ∧ _ ∧ _
        exact ⟨⟨k + 1, sw cur k (k + 1)⟩, ⟨by dsimp only; omega, by dsimp only; omega, sw_len.trans hcl, hmv.sw (by omega) (by omega) (rotF_up hk1)⟩, by dsimp only; omega, (by repeat (first | exact keep_nil | refine keep_cons rfl ?_)), (by repeat (first | exact Sub.refl _ | refine Sub.take (by repeat (first | exact Take.here | apply Take.there | apply Take.app)) ?_ | refine Sub.takeE (by repeat (first | exact TakeE.here | apply TakeE.there | apply TakeE.app)) ?_ | exact Sub.nil _ | apply Sub.drop | apply Sub.dropE))⟩
      · refine sr_nil ?_
        refine aw_keep (keep_cons (t := 0) rfl (keep_cons (t := 10) rfl (keep_cons (t := 13) rfl (keep_cons (t := 55) rfl (keep_cons (t := 56) rfl (keep_cons (t := 57) rfl (keep_cons (t := 58) rfl keep_nil))))))) ?_
        refine aw_false rfl ?_
        refine aw_exit ?_
        show AW _ _ _ _ _ _ _
        refine aw_ret ?_
        show ∃ v H2, ResV _ _ _ _ _ _ v ∧ Sub H2 _ ∧ _
        first | (obtain rfl : i = j := (by omega); obtain rfl : m = a + 1 := (by omega); obtain rfl : i = k + 1 := (by omega); exact ⟨_, _, resV rfl .nil, Sub.refl _, cur, Mg.one_up hsw (by omega) (by omega) (by omega) hB (fun h q1 q2 => Classical.not_not.1 (hb4 h q1 q2)) hb5 hmv, rfl, rfl⟩) | (obtain rfl : i = j := (by omega); obtain rfl : e = m + 1 := (by omega); obtain rfl : k = i := (by omega); exact ⟨_, _, resV rfl .nil, Sub.refl _, cur, Mg.one_down hsw (by omega) (by omega) (by omega) hA hb4 hb5 hmv, rfl, rfl⟩) | exact ⟨_, _, resV rfl .nil, Sub.refl _, W3, merge_end (by omega) hst1 hin1 hp4 hmg2 hmg3, rfl, rfl⟩ | exact ⟨_, _, resV rfl .nil, Sub.refl _, W2, merge_end (by omega) hst1 hin1 hp4 hmg2 (Mg.triv (s := d + m - i) (by omega) (hp4.2.2.1.same fun k q1 q2 => hmg2.2.1.2.1 k (by omega)) (hp4.2.2.2.1.same fun k q1 q2 => hmg2.2.1.2.1 k (by omega))), rfl, rfl⟩
  · refine sr_nil ?_
    refine aw_keep (keep_cons (t := 0) rfl (keep_cons (t := 1) rfl (keep_cons (t := 2) rfl (keep_cons (t := 3) rfl (keep_cons (t := 4) rfl (keep_cons (t := 28) rfl keep_nil)))))) ?_
    refine aw_false rfl ?_
    refine aw_skip ?_
    show AW _ _ _ _ _ _ _
    refine aw_seq ?_
    refine aw_seq_region ?_
    refine sr_x rfl (wtd_none rfl) rfl (Rd.x (x_move rfl)) ?_
    refine sr_x rfl (wtd_none rfl) rfl (Rd.x (x_move rfl)) ?_
    refine sr_x rfl (wtd_none rfl) rfl (Rd.x (x_sub' rfl rfl (i64w (by omega) (by omega)))) ?_
    refine sr_cmp rfl (wtd_none rfl) rfl (Rd.x (x_eq rfl rfl)) (fun h5 => ?_) (fun h5 => ?_)
    · refine sr_nil ?_
      refine aw_keep (keep_cons (t := 0) rfl (keep_cons (t := 1) rfl (keep_cons (t := 2) rfl (keep_cons (t := 3) rfl (keep_cons (t := 4) rfl (keep_cons (t := 80) rfl keep_nil)))))) ?_
      refine aw_true rfl ?_
      refine aw_seq_region ?_
      refine sr_x rfl (wtd_none rfl) rfl (Rd.x (x_move rfl)) ?_
      refine sr_x rfl (wtd_none rfl) rfl (Rd.x (x_assign rfl)) ?_
      refine sr_nil ?_
      refine aw_keep (keep_cons (t := 0) rfl (keep_cons (t := 1) rfl (keep_cons (t := 2) rfl (keep_cons (t := 3) rfl (keep_cons (t := 4) rfl (keep_cons (t := 14) rfl keep_nil)))))) ?_
      refine aw_seq_region ?_
      refine sr_x rfl (wtd_none rfl) rfl (Rd.x (x_move rfl)) ?_
      refine sr_x rfl (wtd_none rfl) rfl (Rd.x (x_assign rfl)) ?_
      refine sr_nil ?_
      refine aw_keep (keep_cons (t := 0) rfl (keep_cons (t := 1) rfl (keep_cons (t := 2) rfl (keep_cons (t := 3) rfl (keep_cons (t := 4) rfl (keep_cons (t := 14) rfl (keep_cons (t := 15) rfl keep_nil))))))) ?_
      refine aw_seq ?_
      refine aw_block ?_
      refine aw_loop (ι := SeaG) (fun s => Sea (fun h => c (gd W m) (gd W h) < 0) a m s.i s.j) (fun s => [(0, .slice (some ⟨b, 0, none⟩) n cap), (2, .int .i64 m), (4, .func (.func 70) #[] #[.pointer (some ⟨q1, 0, none⟩), .pointer (some ⟨q2, 0, none⟩)]), (14, .int .i64 s.i), (15, .int .i64 s.j)]) (fun _ => (b, .cells ((W).flatMap WA.cells ++ post).toArray 77 (0, 0)) :: G) (fun s => s.j - s.i) ⟨a, m⟩ (Sea.start (by omega)) (by repeat (first | exact keep_nil | refine keep_cons rfl ?_)) (by repeat (first | exact Sub.refl _ | refine Sub.take (by repeat (first | exact Take.here | apply Take.there | apply Take.app)) ?_ | refine Sub.takeE (by repeat (first | exact TakeE.here | apply TakeE.there | apply TakeE.app)) ?_ | exact Sub.nil _ | apply Sub.drop | apply Sub.dropE)) ?_
      intro s hs9
      obtain ⟨i, j⟩ := s
      dsimp only at hs9 ⊢
      have hse := hs9
      obtain ⟨hb1, hb2, hb3, hb4, hb5⟩ := hs9
      refine aw_seq ?_
      refine aw_seq_region ?_
      refine sr_x rfl (wtd_none rfl) rfl (Rd.x (x_move rfl)) ?_
      refine sr_x rfl (wtd_none rfl) rfl (Rd.x (x_move rfl)) ?_
      refine sr_cmp rfl (wtd_none rfl) rfl (Rd.x (x_lt rfl rfl)) (fun h6 => ?_) (fun h6 => ?_)
      · refine sr_nil ?_
        refine aw_keep (keep_cons (t := 0) rfl (keep_cons (t := 2) rfl (keep_cons (t := 4) rfl (keep_cons (t := 14) rfl (keep_cons (t := 15) rfl (keep_cons (t := 83) rfl (keep_cons (t := 84) rfl (keep_cons (t := 85) rfl keep_nil)))))))) ?_
        refine aw_true rfl ?_
        refine aw_skip ?_
        show AW _ _ _ _ _ _ _
        refine aw_block ?_
        refine aw_seq_region ?_
        refine sr_x rfl (wtd_none rfl) rfl (Rd.x (x_move rfl)) ?_
        refine sr_x rfl (wtd_none rfl) rfl (Rd.x (x_move rfl)) ?_
        refine sr_x rfl (wtd_none rfl) rfl (Rd.x (x_add' rfl rfl (i64w (by omega) (by omega)))) ?_
        refine sr_x rfl (wtd_none rfl) rfl (Rd.x (x_conv' Try.underlying3 Try.underlying116 rfl (u64w (by omega) (by omega)))) ?_
        refine sr_x rfl (wtd_none rfl) rfl (Rd.x (x_cast (x_shr rfl rfl (by omega)) (shrH (i) (j)))) ?_
        refine sr_x rfl (wtd_none rfl) rfl (Rd.x (x_conv' Try.underlying116 Try.underlying3 rfl (i64w (by omega) (by omega)))) ?_
        refine sr_x rfl (wtd_none rfl) rfl (Rd.x (x_assign rfl)) ?_
        refine sr_nil ?_
        refine aw_keep (keep_cons (t := 0) rfl (keep_cons (t := 2) rfl (keep_cons (t := 4) rfl (keep_cons (t := 14) rfl (keep_cons (t := 15) rfl (keep_cons (t := 16) rfl (keep_cons (t := 83) rfl (keep_cons (t := 84) rfl (keep_cons (t := 85) rfl (keep_cons (t := 86) rfl (keep_cons (t := 87) rfl (keep_cons (t := 88) rfl (keep_cons (t := 89) rfl (keep_cons (t := 90) rfl (keep_cons (t := 91) rfl keep_nil))))))))))))))) ?_
        refine aw_seq_dr ⟨_, 12, 220, [[], [], [], [1, 2], [1, 2, 3], [], [], [5, 6], [5, 6, 7], [0, 1, 2, 3, 4, 5, 6, 7, 8], [0, 1, 2, 3, 4, 5, 6, 7, 8, 9], [0, 1, 2, 3, 4, 5, 6, 7, 8, 9, 10]], [.light, .light, .light, .light, .mem, .light, .light, .light, .mem, .call, .light, .light]⟩ (by kernel_rfl) rfl rfl mix ?_
        refine dr_light rfl rfl (wtd_none rfl) (x_move rfl) ?_
        refine dr_light rfl rfl (wtd_none rfl) (x_move rfl) ?_
        refine dr_light rfl rfl (wtd_none rfl) (x_move rfl) ?_
        refine dr_light rfl rfl (wtd_none rfl) (x_indexAddrN (m) Try.underlying72 sz77 rfl rfl rfl (by omega) (by omega)) ?_
        refine dr_mem0 rfl rfl (wtd_none rfl) (x_loadN ag77 sz77 rfl ((cells_flat0 (n := 11) (enc := WA.cells) (fun _ => rfl) (xs := W) (post := post) (show (b, Obj.cells ((W).flatMap WA.cells ++ post).toArray 77 (0, 0)) ∈ _ from (by repeat (first | exact List.mem_cons_self | apply List.mem_cons_of_mem | apply List.mem_append_right))) (gd_some (by omega)))) rfl) ?_
        refine dr_light rfl rfl (wtd_none rfl) (x_move rfl) ?_
        refine dr_light rfl rfl (wtd_none rfl) (x_move rfl) ?_
        refine dr_light rfl rfl (wtd_none rfl) (x_indexAddrN ((i + j) / 2) Try.underlying72 sz77 rfl rfl rfl (by omega) (by omega)) ?_
        refine dr_mem0 rfl rfl (wtd_none rfl) (x_loadN ag77 sz77 rfl ((cells_flat0 (n := 11) (enc := WA.cells) (fun _ => rfl) (xs := W) (post := post) (show (b, Obj.cells ((W).flatMap WA.cells ++ post).toArray 77 (0, 0)) ∈ _ from (by repeat (first | exact List.mem_cons_self | apply List.mem_cons_of_mem | apply List.mem_append_right))) (gd_some (by omega)))) rfl) ?_
        refine dr_callq0 rfl rfl (wtd_none rfl) (opS_F rfl rfl rfl rfl cl70 ((hcmp (gd W m) (gd W ((i + j) / 2)) _ (by repeat (first | exact Sub.refl _ | apply Sub.drop | apply Sub.dropE))))) (⟨_, rfl⟩) ?_
        rintro _ rfl
        refine dr_cmp rfl rfl (wtd_none rfl) (x_lt rfl rfl) (fun h7 => ?_) (fun h7 => ?_)
        · refine dr_light rfl rfl (wtd_none rfl) (x_not rfl) ?_
          refine dr_nil0 ?_
          refine aw_keep (keep_cons (t := 0) rfl (keep_cons (t := 2) rfl (keep_cons (t := 4) rfl (keep_cons (t := 14) rfl (keep_cons (t := 15) rfl (keep_cons (t := 16) rfl (keep_cons (t := 83) rfl (keep_cons (t := 84) rfl (keep_cons (t := 85) rfl (keep_cons (t := 86) rfl (keep_cons (t := 87) rfl (keep_cons (t := 88) rfl (keep_cons (t := 89) rfl (keep_cons (t := 90) rfl (keep_cons (t := 91) rfl (keep_cons (t := 92) rfl (keep_cons (t := 93) rfl (keep_cons (t := 94) rfl (keep_cons (t := 95) rfl (keep_cons (t := 96) rfl (keep_cons (t := 97) rfl (keep_cons (t := 98) rfl (keep_cons (t := 99) rfl (keep_cons (t := 100) rfl (keep_cons (t := 101) rfl (keep_cons (t := 102) rfl (keep_cons (t := 103) rfl keep_nil))))))))))))))))))))))))))) ?_
          refine aw_false rfl ?_
          refine aw_region ?_
          refine sr_x rfl (wtd_none rfl) rfl (Rd.x (x_move rfl)) ?_
          refine sr_x rfl (wtd_none rfl) rfl (Rd.x (x_assign rfl)) ?_
          refine sr_nil ?_
          show ∃ s', _ ∧ _ ∧ _ ∧ _
          first | exact ⟨⟨(i + j) / 2 + 1, j⟩, hse.right (mono_dn hsw hA) (by omega) (by assumption), by dsimp only; omega, (by repeat (first | exact keep_nil | refine keep_cons rfl ?_)), (by repeat (first | exact Sub.refl _ | refine Sub.take (by repeat (first | exact Take.here | apply Take.there | apply Take.app)) ?_ | refine Sub.takeE (by repeat (first | exact TakeE.here | apply TakeE.there | apply TakeE.app)) ?_ | exact Sub.nil _ | apply Sub.drop | apply Sub.dropE))⟩ | exact ⟨⟨i, (i + j) / 2⟩, hse.left (mono_dn hsw hA) (by omega) (by assumption), by dsimp only; omega, (by repeat (first | exact keep_nil | refine keep_cons rfl ?_)), (by repeat (first | exact Sub.refl _ | refine Sub.take (by repeat (first | exact Take.here | apply Take.there | apply Take.app)) ?_ | refine Sub.takeE (by repeat (first | exact TakeE.here | apply TakeE.there | apply TakeE.app)) ?_ | exact Sub.nil _ | apply Sub.drop | apply Sub.dropE))⟩
        · refine dr_light rfl rfl (wtd_none rfl) (x_not rfl) ?_
          refine dr_nil0 ?_
          refine aw_keep (keep_cons (t := 0) rfl (keep_cons (t := 2) rfl (keep_cons (t := 4) rfl (keep_cons (t := 14) rfl (keep_cons (t := 15) rfl (keep_cons (t := 16) rfl (keep_cons (t := 83) rfl (keep_cons (t := 84) rfl (keep_cons (t := 85) rfl (keep_cons (t := 86) rfl (keep_cons (t := 87) rfl (keep_cons (t := 88) rfl (keep_cons (t := 89) rfl (keep_cons (t := 90) rfl (keep_cons (t := 91) rfl (keep_cons (t := 92) rfl (keep_cons (t := 93) rfl (keep_cons (t := 94) rfl (keep_cons (t := 95) rfl (keep_cons (t := 96) rfl (keep_cons (t := 97) rfl (keep_cons (t := 98) rfl (keep_cons (t := 99) rfl (keep_cons (t := 100) rfl (keep_cons (t := 101) rfl (keep_cons (t := 102) rfl (keep_cons (t := 103) rfl keep_nil))))))))))))))))))))))))))) ?_
          refine aw_true rfl ?_
          refine aw_region ?_
          refine sr_x rfl (wtd_none rfl) rfl (Rd.x (x_move rfl)) ?_
          refine sr_x rfl (wtd_none rfl) rfl (Rd.x (x_add' rfl rfl (i64w (by omega) (by omega)))) ?_
          refine sr_x rfl (wtd_none rfl) rfl (Rd.x (x_assign rfl)) ?_
          refine sr_nil ?_
          show ∃ s', _ ∧ _ ∧ _ ∧ _
          first | exact ⟨⟨(i + j) / 2 + 1, j⟩, hse.right (mono_dn hsw hA) (by omega) (by assumption), by dsimp only; omega, (by repeat (first | exact keep_nil | refine keep_cons rfl ?_)), (by repeat (first | exact Sub.refl _ | refine Sub.take (by repeat (first | exact Take.here | apply Take.there | apply Take.app)) ?_ | refine Sub.takeE (by repeat (first | exact TakeE.here | apply TakeE.there | apply TakeE.app)) ?_ | exact Sub.nil _ | apply Sub.drop | apply Sub.dropE))⟩ | exact ⟨⟨i, (i + j) / 2⟩, hse.left (mono_dn hsw hA) (by omega) (by assumption), by dsimp only; omega, (by repeat (first | exact keep_nil | refine keep_cons rfl ?_)), (by repeat (first | exact Sub.refl _ | refine Sub.take (by repeat (first | exact Take.here | apply Take.there | apply Take.app)) ?_ | refine Sub.takeE (by repeat (first | exact TakeE.here | apply TakeE.there | apply TakeE.app)) ?_ | exact Sub.nil _ | apply Sub.drop | apply Sub.dropE))⟩
      · refine sr_nil ?_
        refine aw_keep (keep_cons (t := 0) rfl (keep_cons (t := 2) rfl (keep_cons (t := 4) rfl (keep_cons (t := 14) rfl (keep_cons (t := 15) rfl (keep_cons (t := 83) rfl (keep_cons (t := 84) rfl (keep_cons (t := 85) rfl keep_nil)))))))) ?_
        refine aw_false rfl ?_
        refine aw_exit ?_
        show AW _ _ _ _ _ _ _
        refine aw_seq ?_
        refine aw_seq_region ?_
        refine sr_x rfl (wtd_none rfl) rfl (Rd.x (x_move rfl)) ?_
        refine sr_x rfl (wtd_none rfl) rfl (Rd.x (x_assign rfl)) ?_
        refine sr_nil ?_
        refine aw_keep (keep_cons (t := 0) rfl (keep_cons (t := 2) rfl (keep_cons (t := 4) rfl (keep_cons (t := 14) rfl (keep_cons (t := 17) rfl keep_nil))))) ?_
        refine aw_block ?_
        refine aw_loop (ι := SortG WA) (fun s => i ≤ s.k ∧ s.k ≤ m ∧ s.W.length = n ∧ Mv W (rotF s.k m (m + 1)) s.W) (fun s => [(0, .slice (some ⟨b, 0, none⟩) n cap), (14, .int .i64 i), (17, .int .i64 s.k)]) (fun s => (b, .cells ((s.W).flatMap WA.cells ++ post).toArray 77 (0, 0)) :: G) (fun s => s.k) ⟨m, W⟩ (⟨by dsimp only; omega, Nat.le_refl _, hl, Mv.refl _ (rotF_self m)⟩) (by repeat (first | exact keep_nil | refine keep_cons rfl ?_)) (by repeat (first | exact Sub.refl _ | refine Sub.take (by repeat (first | exact Take.here | apply Take.there | apply Take.app)) ?_ | refine Sub.takeE (by repeat (first | exact TakeE.here | apply TakeE.there | apply TakeE.app)) ?_ | exact Sub.nil _ | apply Sub.drop | apply Sub.dropE)) ?_
        intro s hs9
        obtain ⟨k, cur⟩ := s
        dsimp only at hs9 ⊢
        obtain ⟨hk1, hk2, hcl, hmv⟩ := hs9
        refine aw_seq ?_
        refine aw_seq_region ?_
        refine sr_x rfl (wtd_none rfl) rfl (Rd.x (x_move rfl)) ?_
        refine sr_x rfl (wtd_none rfl) rfl (Rd.x (x_move rfl)) ?_
        refine sr_cmp rfl (wtd_none rfl) rfl (Rd.x (x_gt rfl rfl)) (fun h8 => ?_) (fun h8 => ?_)
        · refine sr_nil ?_
          refine aw_keep (keep_cons (t := 0) rfl (keep_cons (t := 14) rfl (keep_cons (t := 17) rfl (keep_cons (t := 108) rfl (keep_cons (t := 109) rfl (keep_cons (t := 110) rfl keep_nil)))))) ?_
          refine aw_true rfl ?_
          refine aw_skip ?_
          show AW _ _ _ _ _ _ _
          refine aw_seq ?_
          refine aw_block ?_
          refine aw_dr ⟨_, 18, 220, [[], [], [], [], [3], [], [], [6], [5, 6, 7], [5, 6, 7, 8], [], [], [10, 11], [10, 11, 12], [0, 1, 5, 6, 7, 8, 9, 10, 11, 12, 13], [0, 1, 5, 6, 7, 8, 9, 10, 11, 12, 13, 14], [0, 1, 2, 3, 4, 5, 6, 7, 8, 9, 10, 11, 12, 13, 14, 15], [0, 1, 2, 3, 4, 5, 6, 7, 8, 9, 10, 11, 12, 13, 14, 15, 16]], [.light, .light, .light, .light, .light, .light, .light, .light, .light, .mem, .light, .light, .light, .mem, .light, .eff, .light, .eff]⟩ (by kernel_rfl) rfl rfl mix ?_
          refine dr_light rfl rfl (wtd_none rfl) (x_move rfl) ?_
          refine dr_light rfl rfl (wtd_none rfl) (x_move rfl) ?_
          refine dr_light rfl rfl (wtd_none rfl) (x_move rfl) ?_
          refine dr_light rfl rfl (wtd_none rfl) (x_move rfl) ?_
          refine dr_light rfl rfl (wtd_none rfl) (x_cast (u := .int .i64 ((k - 1 : Nat) : Int)) (x_sub' rfl rfl (i64w (by omega) (by omega))) (by congr 1; omega)) ?_
          refine dr_light rfl rfl (wtd_none rfl) (x_move rfl) ?_
          refine dr_light rfl rfl (wtd_none rfl) (x_move rfl) ?_
          refine dr_light rfl rfl (wtd_none rfl) (x_cast (u := .int .i64 ((k - 1 : Nat) : Int)) (x_sub' rfl rfl (i64w (by omega) (by omega))) (by congr 1; omega)) ?_
          refine dr_light rfl rfl (wtd_none rfl) (x_indexAddrN (k - 1) Try.underlying72 sz77 rfl rfl rfl (by omega) (by omega)) ?_
          refine dr_mem0 rfl rfl (wtd_none rfl) (x_loadN ag77 sz77 rfl ((cells_flat0 (n := 11) (enc := WA.cells) (fun _ => rfl) (xs := cur) (post := post) (show (b, Obj.cells ((cur).flatMap WA.cells ++ post).toArray 77 (0, 0)) ∈ _ from (by repeat (first | exact List.mem_cons_self | apply List.mem_cons_of_mem | apply List.mem_append_right))) (gd_some (by omega)))) rfl) ?_
          refine dr_light rfl rfl (wtd_none rfl) (x_move rfl) ?_
          refine dr_light rfl rfl (wtd_none rfl) (x_move rfl) ?_
          refine dr_light rfl rfl (wtd_none rfl) (x_indexAddrN (k) Try.underlying72 sz77 rfl rfl rfl (by omega) (by omega)) ?_
          refine dr_mem0 rfl rfl (wtd_none rfl) (x_loadN ag77 sz77 rfl ((cells_flat0 (n := 11) (enc := WA.cells) (fun _ => rfl) (xs := cur) (post := post) (show (b, Obj.cells ((cur).flatMap WA.cells ++ post).toArray 77 (0, 0)) ∈ _ from (by repeat (first | exact List.mem_cons_self | apply List.mem_cons_of_mem | apply List.mem_append_right))) (gd_some (by omega)))) rfl) ?_
          refine dr_light rfl rfl (wtd_none rfl) (x_indexAddrN (k) Try.underlying72 sz77 rfl rfl rfl (by omega) (by omega)) ?_
          refine dr_store0 rfl rfl (wtd_none rfl) (x_store sz77 rfl rfl rfl rfl rfl (by repeat (first | exact Repl.here | apply Repl.there | apply Repl.app)) (spl_flat0 (n := 11) (enc := WA.cells) (fun _ => rfl) (xs := cur) (post := post) (i := (k)) (x' := gd cur (k - 1)) (by first | omega | (rw [List.length_set]; omega)))) (by first | rfl | simp [keys_append, keys_cons]) ?_
          refine dr_light rfl rfl (wtd_none rfl) (x_indexAddrN (k - 1) Try.underlying72 sz77 rfl rfl rfl (by omega) (by omega)) ?_
          refine dr_store0 rfl rfl (wtd_none rfl) (x_store sz77 rfl rfl rfl rfl rfl (by repeat (first | exact Repl.here | apply Repl.there | apply Repl.app)) (spl_flat0 (n := 11) (enc := WA.cells) (fun _ => rfl) (xs := ((cur).set (k) (gd cur (k - 1)))) (post := post) (i := (k - 1)) (x' := gd cur (k)) (by first | omega | (rw [List.length_set]; omega)))) (by first | rfl | simp [keys_append, keys_cons]) ?_
          refine dr_nil0 ?_
          show AW _ _ _ _ _ _ _
          refine aw_region ?_
          refine sr_x rfl (wtd_none rfl) rfl (Rd.x (x_move rfl)) ?_
          refine sr_x rfl (wtd_none rfl) rfl (Rd.x (x_cast (u := .int .i64 ((k - 1 : Nat) : Int)) (x_sub' rfl rfl (i64w (by omega) (by omega))) (by congr 1; omega))) ?_
          refine sr_x rfl (wtd_none rfl) rfl (Rd.x (x_assign rfl)) ?_
          refine sr_nil ?_
          show ∃ s', _ ∧ _ ∧ _ ∧ _
          exact ⟨⟨k - 1, sw cur k (k - 1)⟩, ⟨by dsimp only; omega, by dsimp only; omega, sw_len.trans hcl, hmv.sw (by omega) (by omega) (rotF_down (by omega) hk2)⟩, by dsimp only; omega, (by repeat (first | exact keep_nil | refine keep_cons rfl ?_)), (by repeat (first | exact Sub.refl _ | refine Sub.take (by repeat (first | exact Take.here | apply Take.there | apply Take.app)) ?_ | refine Sub.takeE (by repeat (first | exact TakeE.here | apply TakeE.there | apply TakeE.app)) ?_ | exact Sub.nil _ | apply Sub.drop | apply Sub.dropE))⟩
        · refine sr_nil ?_
          refine aw_keep (keep_cons (t := 0) rfl (keep_cons (t := 14) rfl (keep_cons (t := 17) rfl (keep_cons (t := 108) rfl (keep_cons (t := 109) rfl (keep_cons (t := 110) rfl keep_nil)))))) ?_
          refine aw_false rfl ?_
          refine aw_exit ?_
          show AW _ _ _ _ _ _ _
          refine aw_ret ?_
          show ∃ v H2, ResV _ _ _ _ _ _ v ∧ Sub H2 _ ∧ _
          first | (obtain rfl : i = j := (by omega); obtain rfl : m = a + 1 := (by omega); obtain rfl : i = k + 1 := (by omega); exact ⟨_, _, resV rfl .nil, Sub.refl _, cur, Mg.one_up hsw (by omega) (by omega) (by omega) hB (fun h q1 q2 => Classical.not_not.1 (hb4 h q1 q2)) hb5 hmv, rfl, rfl⟩) | (obtain rfl : i = j := (by omega); obtain rfl : e = m + 1 := (by omega); obtain rfl : k = i := (by omega); exact ⟨_, _, resV rfl .nil, Sub.refl _, cur, Mg.one_down hsw (by omega) (by omega) (by omega) hA hb4 hb5 hmv, rfl, rfl⟩) | exact ⟨_, _, resV rfl .nil, Sub.refl _, W3, merge_end (by omega) hst1 hin1 hp4 hmg2 hmg3, rfl, rfl⟩ | exact ⟨_, _, resV rfl .nil, Sub.refl _, W2, merge_end (by omega) hst1 hin1 hp4 hmg2 (Mg.triv (s := d + m - i) (by omega) (hp4.2.2.1.same fun k q1 q2 => hmg2.2.1.2.1 k (by omega)) (hp4.2.2.2.1.same fun k q1 q2 => hmg2.2.1.2.1 k (by omega))), rfl, rfl⟩
    · refine sr_nil ?_
      refine aw_keep (keep_cons (t := 0) rfl (keep_cons (t := 1) rfl (keep_cons (t := 2) rfl (keep_cons (t := 3) rfl (keep_cons (t := 4) rfl (keep_cons (t := 80) rfl keep_nil)))))) ?_
      refine aw_false rfl ?_
      refine aw_skip ?_
      show AW _ _ _ _ _ _ _
      refine aw_seq_region ?_
      refine sr_x rfl (wtd_none rfl) rfl (Rd.x (x_move rfl)) ?_
      refine sr_x rfl (wtd_none rfl) rfl (Rd.x (x_move rfl)) ?_
      refine sr_x rfl (wtd_none rfl) rfl (Rd.x (x_add' rfl rfl (i64w (by omega) (by omega)))) ?_
      refine sr_x rfl (wtd_none rfl) rfl (Rd.x (x_conv' Try.underlying3 Try.underlying116 rfl (u64w (by omega) (by omega)))) ?_
      refine sr_x rfl (wtd_none rfl) rfl (Rd.x (x_cast (x_shr rfl rfl (by omega)) (shrH (a) (e)))) ?_
      refine sr_x rfl (wtd_none rfl) rfl (Rd.x (x_conv' Try.underlying116 Try.underlying3 rfl (i64w (by omega) (by omega)))) ?_
      refine sr_x rfl (wtd_none rfl) rfl (Rd.x (x_assign rfl)) ?_
      refine sr_nil ?_
      refine aw_keep (keep_cons (t := 0) rfl (keep_cons (t := 1) rfl (keep_cons (t := 2) rfl (keep_cons (t := 3) rfl (keep_cons (t := 4) rfl (keep_cons (t := 18) rfl keep_nil)))))) ?_
      refine aw_seq_region ?_
      obtain ⟨d, hd⟩ : ∃ d, d = (a + e) / 2 := ⟨_, rfl⟩
      rw [← hd]
      refine sr_x rfl (wtd_none rfl) rfl (Rd.x (x_move rfl)) ?_
      refine sr_x rfl (wtd_none rfl) rfl (Rd.x (x_move rfl)) ?_
      refine sr_x rfl (wtd_none rfl) rfl (Rd.x (x_cast (u := .int .i64 ((d + m : Nat) : Int)) (x_add' rfl rfl (i64w (by omega) (by omega))) (by congr 1))) ?_
      refine sr_x rfl (wtd_none rfl) rfl (Rd.x (x_assign rfl)) ?_
      refine sr_nil ?_
      refine aw_keep (keep_cons (t := 0) rfl (keep_cons (t := 1) rfl (keep_cons (t := 2) rfl (keep_cons (t := 3) rfl (keep_cons (t := 4) rfl (keep_cons (t := 18) rfl (keep_cons (t := 19) rfl keep_nil))))))) ?_
      refine aw_seq_region ?_
      refine sr_x rfl (wtd_none rfl) rfl (Rd.x (x_assign rfl)) ?_
      refine sr_x rfl (wtd_none rfl) rfl (Rd.x (x_assign rfl)) ?_
      refine sr_nil ?_
      refine aw_keep (keep_cons (t := 0) rfl (keep_cons (t := 1) rfl (keep_cons (t := 2) rfl (keep_cons (t := 3) rfl (keep_cons (t := 4) rfl (keep_cons (t := 18) rfl (keep_cons (t := 19) rfl (keep_cons (t := 20) rfl (keep_cons (t := 21) rfl keep_nil))))))))) ?_
      refine aw_seq ?_
      refine aw_seq_region ?_
      refine sr_x rfl (wtd_none rfl) rfl (Rd.x (x_move rfl)) ?_
      refine sr_x rfl (wtd_none rfl) rfl (Rd.x (x_move rfl)) ?_
      refine sr_cmp rfl (wtd_none rfl) rfl (Rd.x (x_gt rfl rfl)) (fun h9 => ?_) (fun h9 => ?_)
      · refine sr_nil ?_
        refine aw_keep (keep_cons (t := 0) rfl (keep_cons (t := 1) rfl (keep_cons (t := 2) rfl (keep_cons (t := 3) rfl (keep_cons (t := 4) rfl (keep_cons (t := 18) rfl (keep_cons (t := 19) rfl (keep_cons (t := 20) rfl (keep_cons (t := 21) rfl (keep_cons (t := 140) rfl keep_nil)))))))))) ?_
        refine aw_true rfl ?_
        refine aw_seq_region ?_
        refine sr_x rfl (wtd_none rfl) rfl (Rd.x (x_move rfl)) ?_
        refine sr_x rfl (wtd_none rfl) rfl (Rd.x (x_move rfl)) ?_
        refine sr_x rfl (wtd_none rfl) rfl (Rd.x (x_cast (u := .int .i64 ((d + m - e : Nat) : Int)) (x_sub' rfl rfl (i64w (by omega) (by omega))) (by congr 1; omega))) ?_
        refine sr_x rfl (wtd_none rfl) rfl (Rd.x (x_assign rfl)) ?_
        refine sr_nil ?_
        refine aw_keep (keep_cons (t := 0) rfl (keep_cons (t := 1) rfl (keep_cons (t := 2) rfl (keep_cons (t := 3) rfl (keep_cons (t := 4) rfl (keep_cons (t := 18) rfl (keep_cons (t := 19) rfl (keep_cons (t := 20) rfl (keep_cons (t := 21) rfl keep_nil))))))))) ?_
        refine aw_region ?_
        refine sr_x rfl (wtd_none rfl) rfl (Rd.x (x_move rfl)) ?_
        refine sr_x rfl (wtd_none rfl) rfl (Rd.x (x_assign rfl)) ?_
        refine sr_nil ?_
        show AW _ _ _ _ _ _ _
        refine aw_seq_region ?_
        refine sr_x rfl (wtd_none rfl) rfl (Rd.x (x_move rfl)) ?_
        refine sr_x rfl (wtd_none rfl) rfl (Rd.x (x_cast (u := .int .i64 ((d + m - 1 : Nat) : Int)) (x_sub' rfl rfl (i64w (by omega) (by omega))) (by congr 1; omega))) ?_
        refine sr_x rfl (wtd_none rfl) rfl (Rd.x (x_assign rfl)) ?_
        refine sr_nil ?_
        refine aw_keep (keep_cons (t := 0) rfl (keep_cons (t := 1) rfl (keep_cons (t := 2) rfl (keep_cons (t := 3) rfl (keep_cons (t := 4) rfl (keep_cons (t := 18) rfl (keep_cons (t := 19) rfl (keep_cons (t := 20) rfl (keep_cons (t := 21) rfl (keep_cons (t := 22) rfl keep_nil)))))))))) ?_
        refine aw_seq ?_
        refine aw_block ?_
        refine aw_loop (ι := SeaG) (fun s => Sea (fun h => c (gd W (d + m - 1 - h)) (gd W h) < 0) (d + m - e) d s.i s.j) (fun s => [(0, .slice (some ⟨b, 0, none⟩) n cap), (1, .int .i64 a), (2, .int .i64 m), (3, .int .i64 e), (4, .func (.func 70) #[] #[.pointer (some ⟨q1, 0, none⟩), .pointer (some ⟨q2, 0, none⟩)]), (18, .int .i64 d), (19, .int .i64 ((d + m : Nat) : Int)), (20, .int .i64 s.i), (21, .int .i64 s.j), (22, .int .i64 ((d + m - 1 : Nat) : Int))]) (fun _ => (b, .cells ((W).flatMap WA.cells ++ post).toArray 77 (0, 0)) :: G) (fun s => s.j - s.i) ⟨(d + m - e), d⟩ (Sea.start (by omega)) (by repeat (first | exact keep_nil | refine keep_cons rfl ?_)) (by repeat (first | exact Sub.refl _ | refine Sub.take (by repeat (first | exact Take.here | apply Take.there | apply Take.app)) ?_ | refine Sub.takeE (by repeat (first | exact TakeE.here | apply TakeE.there | apply TakeE.app)) ?_ | exact Sub.nil _ | apply Sub.drop | apply Sub.dropE)) ?_
        intro s hs9
        obtain ⟨i, j⟩ := s
        dsimp only at hs9 ⊢
        have hse := hs9
        obtain ⟨hb1, hb2, hb3, hb4, hb5⟩ := hs9
        refine aw_seq ?_
        refine aw_seq_region ?_
        refine sr_x rfl (wtd_none rfl) rfl (Rd.x (x_move rfl)) ?_
        refine sr_x rfl (wtd_none rfl) rfl (Rd.x (x_move rfl)) ?_
        refine sr_cmp rfl (wtd_none rfl) rfl (Rd.x (x_lt rfl rfl)) (fun h10 => ?_) (fun h10 => ?_)
        · refine sr_nil ?_
          refine aw_keep (keep_cons (t := 0) rfl (keep_cons (t := 1) rfl (keep_cons (t := 2) rfl (keep_cons (t := 3) rfl (keep_cons (t := 4) rfl (keep_cons (t := 18) rfl (keep_cons (t := 19) rfl (keep_cons (t := 20) rfl (keep_cons (t := 21) rfl (keep_cons (t := 22) rfl (keep_cons (t := 149) rfl (keep_cons (t := 150) rfl (keep_cons (t := 151) rfl keep_nil))))))))))))) ?_
          refine aw_true rfl ?_
          refine aw_skip ?_
          show AW _ _ _ _ _ _ _
          refine aw_block ?_
          refine aw_seq_region ?_
          refine sr_x rfl (wtd_none rfl) rfl (Rd.x (x_move rfl)) ?_
          refine sr_x rfl (wtd_none rfl) rfl (Rd.x (x_move rfl)) ?_
          refine sr_x rfl (wtd_none rfl) rfl (Rd.x (x_add' rfl rfl (i64w (by omega) (by omega)))) ?_
          refine sr_x rfl (wtd_none rfl) rfl (Rd.x (x_conv' Try.underlying3 Try.underlying116 rfl (u64w (by omega) (by omega)))) ?_
          refine sr_x rfl (wtd_none rfl) rfl (Rd.x (x_cast (x_shr rfl rfl (by omega)) (shrH (i) (j)))) ?_
          refine sr_x rfl (wtd_none rfl) rfl (Rd.x (x_conv' Try.underlying116 Try.underlying3 rfl (i64w (by omega) (by omega)))) ?_
          refine sr_x rfl (wtd_none rfl) rfl (Rd.x (x_assign rfl)) ?_
          refine sr_nil ?_
          refine aw_keep (keep_cons (t := 0) rfl (keep_cons (t := 1) rfl (keep_cons (t := 2) rfl (keep_cons (t := 3) rfl (keep_cons (t := 4) rfl (keep_cons (t := 18) rfl (keep_cons (t := 19) rfl (keep_cons (t := 20) rfl (keep_cons (t := 21) rfl (keep_cons (t := 22) rfl (keep_cons (t := 23) rfl (keep_cons (t := 149) rfl (keep_cons (t := 150) rfl (keep_cons (t := 151) rfl (keep_cons (t := 152) rfl (keep_cons (t := 153) rfl (keep_cons (t := 154) rfl (keep_cons (t := 155) rfl (keep_cons (t := 156) rfl (keep_cons (t := 157) rfl keep_nil)))))))))))))))))))) ?_
          refine aw_seq_dr ⟨_, 14, 220, [[], [], [], [], [2, 3], [1, 2, 3, 4], [1, 2, 3, 4, 5], [], [], [7, 8], [7, 8, 9], [0, 1, 2, 3, 4, 5, 6, 7, 8, 9, 10], [0, 1, 2, 3, 4, 5, 6, 7, 8, 9, 10, 11], [0, 1, 2, 3, 4, 5, 6, 7, 8, 9, 10, 11, 12]], [.light, .light, .light, .light, .light, .light, .mem, .light, .light, .light, .mem, .call, .light, .light]⟩ (by kernel_rfl) rfl rfl mix ?_
          refine dr_light rfl rfl (wtd_none rfl) (x_move rfl) ?_
          refine dr_light rfl rfl (wtd_none rfl) (x_move rfl) ?_
          refine dr_light rfl rfl (wtd_none rfl) (x_move rfl) ?_
          refine dr_light rfl rfl (wtd_none rfl) (x_move rfl) ?_
          refine dr_light rfl rfl (wtd_none rfl) (x_cast (u := .int .i64 ((d + m - 1 - (i + j) / 2 : Nat) : Int)) (x_sub' rfl rfl (i64w (by omega) (by omega))) (by congr 1; omega)) ?_
          refine dr_light rfl rfl (wtd_none rfl) (x_indexAddrN (d + m - 1 - (i + j) / 2) Try.underlying72 sz77 rfl rfl rfl (by omega) (by omega)) ?_
          refine dr_mem0 rfl rfl (wtd_none rfl) (x_loadN ag77 sz77 rfl ((cells_flat0 (n := 11) (enc := WA.cells) (fun _ => rfl) (xs := W) (post := post) (show (b, Obj.cells ((W).flatMap WA.cells ++ post).toArray 77 (0, 0)) ∈ _ from (by repeat (first | exact List.mem_cons_self | apply List.mem_cons_of_mem | apply List.mem_append_right))) (gd_some (by omega)))) rfl) ?_
          refine dr_light rfl rfl (wtd_none rfl) (x_move rfl) ?_
          refine dr_light rfl rfl (wtd_none rfl) (x_move rfl) ?_
          refine dr_light rfl rfl (wtd_none rfl) (x_indexAddrN ((i + j) / 2) Try.underlying72 sz77 rfl rfl rfl (by omega) (by omega)) ?_
          refine dr_mem0 rfl rfl (wtd_none rfl) (x_loadN ag77 sz77 rfl ((cells_flat0 (n := 11) (enc := WA.cells) (fun _ => rfl) (xs := W) (post := post) (show (b, Obj.cells ((W).flatMap WA.cells ++ post).toArray 77 (0, 0)) ∈ _ from (by repeat (first | exact List.mem_cons_self | apply List.mem_cons_of_mem | apply List.mem_append_right))) (gd_some (by omega)))) rfl) ?_
          refine dr_callq0 rfl rfl (wtd_none rfl) (opS_F rfl rfl rfl rfl cl70 ((hcmp (gd W (d + m - 1 - (i + j) / 2)) (gd W ((i + j) / 2)) _ (by repeat (first | exact Sub.refl _ | apply Sub.drop | apply Sub.dropE))))) (⟨_, rfl⟩) ?_
          rintro _ rfl
          refine dr_cmp rfl rfl (wtd_none rfl) (x_lt rfl rfl) (fun h11 => ?_) (fun h11 => ?_)
          · refine dr_light rfl rfl (wtd_none rfl) (x_not rfl) ?_
            refine dr_nil0 ?_
            refine aw_keep (keep_cons (t := 0) rfl (keep_cons (t := 1) rfl (keep_cons (t := 2) rfl (keep_cons (t := 3) rfl (keep_cons (t := 4) rfl (keep_cons (t := 18) rfl (keep_cons (t := 19) rfl (keep_cons (t := 20) rfl (keep_cons (t := 21) rfl (keep_cons (t := 22) rfl (keep_cons (t := 23) rfl (keep_cons (t := 149) rfl (keep_cons (t := 150) rfl (keep_cons (t := 151) rfl (keep_cons (t := 152) rfl (keep_cons (t := 153) rfl (keep_cons (t := 154) rfl (keep_cons (t := 155) rfl (keep_cons (t := 156) rfl (keep_cons (t := 157) rfl (keep_cons (t := 158) rfl (keep_cons (t := 159) rfl (keep_cons (t := 160) rfl (keep_cons (t := 161) rfl (keep_cons (t := 162) rfl (keep_cons (t := 163) rfl (keep_cons (t := 164) rfl (keep_cons (t := 165) rfl (keep_cons (t := 166) rfl (keep_cons (t := 167) rfl (keep_cons (t := 168) rfl (keep_cons (t := 169) rfl (keep_cons (t := 170) rfl (keep_cons (t := 171) rfl keep_nil)))))))))))))))))))))))))))))))))) ?_
            refine aw_false rfl ?_
            refine aw_region ?_
            refine sr_x rfl (wtd_none rfl) rfl (Rd.x (x_move rfl)) ?_
            refine sr_x rfl (wtd_none rfl) rfl (Rd.x (x_assign rfl)) ?_
            refine sr_nil ?_
            show ∃ s', _ ∧ _ ∧ _ ∧ _
            first | exact ⟨⟨(i + j) / 2 + 1, j⟩, hse.right (mono_mid hsw hA hB (by omega) (by omega) (fun h q1 q2 => by omega) : ∀ x y, (d + m - e) ≤ x → x ≤ y → y < d → (fun h => c (gd W (d + m - 1 - h)) (gd W h) < 0) x → (fun h => c (gd W (d + m - 1 - h)) (gd W h) < 0) y) (by omega) (by assumption), by dsimp only; omega, (by repeat (first | exact keep_nil | refine keep_cons rfl ?_)), (by repeat (first | exact Sub.refl _ | refine Sub.take (by repeat (first | exact Take.here | apply Take.there | apply Take.app)) ?_ | refine Sub.takeE (by repeat (first | exact TakeE.here | apply TakeE.there | apply TakeE.app)) ?_ | exact Sub.nil _ | apply Sub.drop | apply Sub.dropE))⟩ | exact ⟨⟨i, (i + j) / 2⟩, hse.left (mono_mid hsw hA hB (by omega) (by omega) (fun h q1 q2 => by omega) : ∀ x y, (d + m - e) ≤ x → x ≤ y → y < d → (fun h => c (gd W (d + m - 1 - h)) (gd W h) < 0) x → (fun h => c (gd W (d + m - 1 - h)) (gd W h) < 0) y) (by omega) (by assumption), by dsimp only; omega, (by repeat (first | exact keep_nil | refine keep_cons rfl ?_)), (by repeat (first | exact Sub.refl _ | refine Sub.take (by repeat (first | exact Take.here | apply Take.there | apply Take.app)) ?_ | refine Sub.takeE (by repeat (first | exact TakeE.here | apply TakeE.there | apply TakeE.app)) ?_ | exact Sub.nil _ | apply Sub.drop | apply Sub.dropE))⟩
          · refine dr_light rfl rfl (wtd_none rfl) (x_not rfl) ?_
            refine dr_nil0 ?_
            refine aw_keep (keep_cons (t := 0) rfl (keep_cons (t := 1) rfl (keep_cons (t := 2) rfl (keep_cons (t := 3) rfl (keep_cons (t := 4) rfl (keep_cons (t := 18) rfl (keep_cons (t := 19) rfl (keep_cons (t := 20) rfl (keep_cons (t := 21) rfl (keep_cons (t := 22) rfl (keep_cons (t := 23) rfl (keep_cons (t := 149) rfl (keep_cons (t := 150) rfl (keep_cons (t := 151) rfl (keep_cons (t := 152) rfl (keep_cons (t := 153) rfl (keep_cons (t := 154) rfl (keep_cons (t := 155) rfl (keep_cons (t := 156) rfl (keep_cons (t := 157) rfl (keep_cons (t := 158) rfl (keep_cons (t := 159) rfl (keep_cons (t := 160) rfl (keep_cons (t := 161) rfl (keep_cons (t := 162) rfl (keep_cons (t := 163) rfl (keep_cons (t := 164) rfl (keep_cons (t := 165) rfl (keep_cons (t := 166) rfl (keep_cons (t := 167) rfl (keep_cons (t := 168) rfl (keep_cons (t := 169) rfl (keep_cons (t := 170) rfl (keep_cons (t := 171) rfl keep_nil)))))))))))))))))))))))))))))))))) ?_
            refine aw_true rfl ?_
            refine aw_region ?_
            refine sr_x rfl (wtd_none rfl) rfl (Rd.x (x_move rfl)) ?_
            refine sr_x rfl (wtd_none rfl) rfl (Rd.x (x_add' rfl rfl (i64w (by omega) (by omega)))) ?_
            refine sr_x rfl (wtd_none rfl) rfl (Rd.x (x_assign rfl)) ?_
            refine sr_nil ?_
            show ∃ s', _ ∧ _ ∧ _ ∧ _
            first | exact ⟨⟨(i + j) / 2 + 1, j⟩, hse.right (mono_mid hsw hA hB (by omega) (by omega) (fun h q1 q2 => by omega) : ∀ x y, (d + m - e) ≤ x → x ≤ y → y < d → (fun h => c (gd W (d + m - 1 - h)) (gd W h) < 0) x → (fun h => c (gd W (d + m - 1 - h)) (gd W h) < 0) y) (by omega) (by assumption), by dsimp only; omega, (by repeat (first | exact keep_nil | refine keep_cons rfl ?_)), (by repeat (first | exact Sub.refl _ | refine Sub.take (by repeat (first | exact Take.here | apply Take.there | apply Take.app)) ?_ | refine Sub.takeE (by repeat (first | exact TakeE.here | apply TakeE.there | apply TakeE.app)) ?_ | exact Sub.nil _ | apply Sub.drop | apply Sub.dropE))⟩ | exact ⟨⟨i, (i + j) / 2⟩, hse.left (mono_mid hsw hA hB (by omega) (by omega) (fun h q1 q2 => by omega) : ∀ x y, (d + m - e) ≤ x → x ≤ y → y < d → (fun h => c (gd W (d + m - 1 - h)) (gd W h) < 0) x → (fun h => c (gd W (d + m - 1 - h)) (gd W h) < 0) y) (by omega) (by assumption), by dsimp only; omega, (by repeat (first | exact keep_nil | refine keep_cons rfl ?_)), (by repeat (first | exact Sub.refl _ | refine Sub.take (by repeat (first | exact Take.here | apply Take.there | apply Take.app)) ?_ | refine Sub.takeE (by repeat (first | exact TakeE.here | apply TakeE.there | apply TakeE.app)) ?_ | exact Sub.nil _ | apply Sub.drop | apply Sub.dropE))⟩
        · refine sr_nil ?_
          refine aw_keep (keep_cons (t := 0) rfl (keep_cons (t := 1) rfl (keep_cons (t := 2) rfl (keep_cons (t := 3) rfl (keep_cons (t := 4) rfl (keep_cons (t := 18) rfl (keep_cons (t := 19) rfl (keep_cons (t := 20) rfl (keep_cons (t := 21) rfl (keep_cons (t := 22) rfl (keep_cons (t := 149) rfl (keep_cons (t := 150) rfl (keep_cons (t := 151) rfl keep_nil))))))))))))) ?_
          refine aw_false rfl ?_
          refine aw_exit ?_
          show AW _ _ _ _ _ _ _
          refine aw_seq_region ?_
          refine sr_x rfl (wtd_none rfl) rfl (Rd.x (x_move rfl)) ?_
          refine sr_x rfl (wtd_none rfl) rfl (Rd.x (x_move rfl)) ?_
          refine sr_x rfl (wtd_none rfl) rfl (Rd.x (x_cast (u := .int .i64 ((d + m - i : Nat) : Int)) (x_sub' rfl rfl (i64w (by omega) (by omega))) (by congr 1; omega))) ?_
          refine sr_x rfl (wtd_none rfl) rfl (Rd.x (x_assign rfl)) ?_
          refine sr_nil ?_
          refine aw_keep (keep_cons (t := 0) rfl (keep_cons (t := 1) rfl (keep_cons (t := 2) rfl (keep_cons (t := 3) rfl (keep_cons (t := 4) rfl (keep_cons (t := 18) rfl (keep_cons (t := 20) rfl (keep_cons (t := 24) rfl keep_nil)))))))) ?_
          refine aw_join (ι := List WA) (fun W1 => W1.length = n ∧ Mv W (rotF i m (d + m - i)) W1) (fun W1 => [(0, .slice (some ⟨b, 0, none⟩) n cap), (1, .int .i64 a), (3, .int .i64 e), (4, .func (.func 70) #[] #[.pointer (some ⟨q1, 0, none⟩), .pointer (some ⟨q2, 0, none⟩)]), (18, .int .i64 d), (20, .int .i64 i), (24, .int .i64 ((d + m - i : Nat) : Int))]) (fun W1 => (b, .cells ((W1).flatMap WA.cells ++ post).toArray 77 (0, 0)) :: G) ?_ ?_
          · refine aw_seq_region ?_
            refine sr_x rfl (wtd_none rfl) rfl (Rd.x (x_move rfl)) ?_
            refine sr_x rfl (wtd_none rfl) rfl (Rd.x (x_move rfl)) ?_
            refine sr_cmp rfl (wtd_none rfl) rfl (Rd.x (x_lt rfl rfl)) (fun h12 => ?_) (fun h12 => ?_)
            · refine sr_x rfl (wtd_none rfl) rfl (Rd.x (x_move rfl)) ?_
              refine sr_x rfl (wtd_yes rfl rfl rfl) rfl (Rd.x (x_move rfl)) ?_
              refine sr_x rfl (wtd_yes rfl rfl rfl) rfl (Rd.x (x_move rfl)) ?_
              refine sr_cmp rfl (wtd_yes rfl rfl rfl) rfl (Rd.x (x_lt rfl rfl)) (fun h13 => ?_) (fun h13 => ?_)
              · refine sr_x rfl (wtd_none rfl) rfl (Rd.x (x_pick_t rfl rfl rfl)) ?_
                refine sr_nil ?_
                refine aw_keep (keep_cons (t := 0) rfl (keep_cons (t := 1) rfl (keep_cons (t := 2) rfl (keep_cons (t := 3) rfl (keep_cons (t := 4) rfl (keep_cons (t := 18) rfl (keep_cons (t := 20) rfl (keep_cons (t := 24) rfl (keep_cons (t := 185) rfl keep_nil))))))))) ?_
                refine aw_true rfl ?_
                refine aw_region ?_
                refine sr_x rfl (wtd_none rfl) rfl (Rd.x (x_move rfl)) ?_
                refine sr_x rfl (wtd_none rfl) rfl (Rd.x (x_move rfl)) ?_
                refine sr_x rfl (wtd_none rfl) rfl (Rd.x (x_move rfl)) ?_
                refine sr_x rfl (wtd_none rfl) rfl (Rd.x (x_move rfl)) ?_
                refine sr_x rfl (wtd_none rfl) rfl (Rd.x (x_move rfl)) ?_
                refine sr_d rfl (wtd_none rfl) rfl (opS_call rfl rfl rfl rfl cl84 (AC.sub (by repeat (first | exact Sub.refl _ | refine Sub.take (by repeat (first | exact Take.here | apply Take.there | apply Take.app)) ?_ | refine Sub.takeE (by repeat (first | exact TakeE.here | apply TakeE.there | apply TakeE.app)) ?_ | exact Sub.nil _ | apply Sub.drop | apply Sub.dropE)) (asRot_s b cap n W post G hl hn hcap hcb i m (d + m - i) (by omega) (by omega) (by omega)))) ?_
                rintro _ _ ⟨W9, hm9, rfl, rfl⟩
                refine sr_nil ?_
                show ∃ s', _ ∧ _ ∧ _
                first | exact ⟨W9, ⟨hm9.1.trans hl, hm9⟩, (by repeat (first | exact keep_nil | refine keep_cons rfl ?_)), (by repeat (first | exact Sub.refl _ | refine Sub.take (by repeat (first | exact Take.here | apply Take.there | apply Take.app)) ?_ | refine Sub.takeE (by repeat (first | exact TakeE.here | apply TakeE.there | apply TakeE.app)) ?_ | exact Sub.nil _ | apply Sub.drop | apply Sub.dropE))⟩ | exact ⟨W, ⟨hl, Mv.refl W (rotF_triv (by omega) (by omega) (by omega))⟩, (by repeat (first | exact keep_nil | refine keep_cons rfl ?_)), (by repeat (first | exact Sub.refl _ | refine Sub.take (by repeat (first | exact Take.here | apply Take.there | apply Take.app)) ?_ | refine Sub.takeE (by repeat (first | exact TakeE.here | apply TakeE.there | apply TakeE.app)) ?_ | exact Sub.nil _ | apply Sub.drop | apply Sub.dropE))⟩
              · refine sr_x rfl (wtd_none rfl) rfl (Rd.x (x_pick_t rfl rfl rfl)) ?_
                refine sr_nil ?_
                refine aw_keep (keep_cons (t := 0) rfl (keep_cons (t := 1) rfl (keep_cons (t := 2) rfl (keep_cons (t := 3) rfl (keep_cons (t := 4) rfl (keep_cons (t := 18) rfl (keep_cons (t := 20) rfl (keep_cons (t := 24) rfl (keep_cons (t := 185) rfl keep_nil))))))))) ?_
                refine aw_false rfl ?_
                refine aw_skip ?_
                show ∃ s', _ ∧ _ ∧ _
                first | exact ⟨W9, ⟨hm9.1.trans hl, hm9⟩, (by repeat (first | exact keep_nil | refine keep_cons rfl ?_)), (by repeat (first | exact Sub.refl _ | refine Sub.take (by repeat (first | exact Take.here | apply Take.there | apply Take.app)) ?_ | refine Sub.takeE (by repeat (first | exact TakeE.here | apply TakeE.there | apply TakeE.app)) ?_ | exact Sub.nil _ | apply Sub.drop | apply Sub.dropE))⟩ | exact ⟨W, ⟨hl, Mv.refl W (rotF_triv (by omega) (by omega) (by omega))⟩, (by repeat (first | exact keep_nil | refine keep_cons rfl ?_)), (by repeat (first | exact Sub.refl _ | refine Sub.take (by repeat (first | exact Take.here | apply Take.there | apply Take.app)) ?_ | refine Sub.takeE (by repeat (first | exact TakeE.here | apply TakeE.there | apply TakeE.app)) ?_ | exact Sub.nil _ | apply Sub.drop | apply Sub.dropE))⟩
            · refine sr_x rfl (wtd_none rfl) rfl (Rd.x (x_move rfl)) ?_
              refine sr_skip rfl (wtd_no rfl rfl rfl rfl) rfl ?_
              refine sr_skip rfl (wtd_no rfl rfl rfl rfl) rfl ?_
              refine sr_skip rfl (wtd_no rfl rfl rfl rfl) rfl ?_
              refine sr_x rfl (wtd_none rfl) rfl (Rd.x (x_pick_f rfl rfl rfl)) ?_
              refine sr_nil ?_
              refine aw_keep (keep_cons (t := 0) rfl (keep_cons (t := 1) rfl (keep_cons (t := 2) rfl (keep_cons (t := 3) rfl (keep_cons (t := 4) rfl (keep_cons (t := 18) rfl (keep_cons (t := 20) rfl (keep_cons (t := 24) rfl (keep_cons (t := 185) rfl keep_nil))))))))) ?_
              refine aw_false rfl ?_
              refine aw_skip ?_
              show ∃ s', _ ∧ _ ∧ _
              first | exact ⟨W9, ⟨hm9.1.trans hl, hm9⟩, (by repeat (first | exact keep_nil | refine keep_cons rfl ?_)), (by repeat (first | exact Sub.refl _ | refine Sub.take (by repeat (first | exact Take.here | apply Take.there | apply Take.app)) ?_ | refine Sub.takeE (by repeat (first | exact TakeE.here | apply TakeE.there | apply TakeE.app)) ?_ | exact Sub.nil _ | apply Sub.drop | apply Sub.dropE))⟩ | exact ⟨W, ⟨hl, Mv.refl W (rotF_triv (by omega) (by omega) (by omega))⟩, (by repeat (first | exact keep_nil | refine keep_cons rfl ?_)), (by repeat (first | exact Sub.refl _ | refine Sub.take (by repeat (first | exact Take.here | apply Take.there | apply Take.app)) ?_ | refine Sub.takeE (by repeat (first | exact TakeE.here | apply TakeE.there | apply TakeE.app)) ?_ | exact Sub.nil _ | apply Sub.drop | apply Sub.dropE))⟩
          · intro W1 hW1
            obtain ⟨hl1, hm1⟩ := hW1
            obtain ⟨hst1, hin1, hp4⟩ := merge_cut (d := d) (s := i) (e := d + m - i) hsw (by omega) (by omega) (by omega) (by omega) (by omega) (by omega) (by omega) hA hB (fun q1 q2 => by have h7 : c (gd W (d + m - 1 - i)) (gd W i) < 0 := hb5 i (by omega) (by omega); rw [show d + m - i - 1 = d + m - 1 - i by omega]; exact h7) (fun q1 q2 => by have h7 : ¬ c (gd W (d + m - 1 - (i - 1))) (gd W (i - 1)) < 0 := hb4 (i - 1) (by omega) (by omega); rw [show d + m - 1 - (i - 1) = d + m - i by omega] at h7; exact h7) hm1
            refine aw_join (ι := List WA) (fun W2 => W2.length = n ∧ Mg c W1 a d W2) (fun W2 => [(0, .slice (some ⟨b, 0, none⟩) n cap), (3, .int .i64 e), (4, .func (.func 70) #[] #[.pointer (some ⟨q1, 0, none⟩), .pointer (some ⟨q2, 0, none⟩)]), (18, .int .i64 d), (24, .int .i64 ((d + m - i : Nat) : Int))]) (fun W2 => (b, .cells ((W2).flatMap WA.cells ++ post).toArray 77 (0, 0)) :: G) ?_ ?_
            · refine aw_seq_region ?_
              refine sr_x rfl (wtd_none rfl) rfl (Rd.x (x_move rfl)) ?_
              refine sr_x rfl (wtd_none rfl) rfl (Rd.x (x_move rfl)) ?_
              refine sr_cmp rfl (wtd_none rfl) rfl (Rd.x (x_lt rfl rfl)) (fun h14 => ?_) (fun h14 => ?_)
              · refine sr_x rfl (wtd_none rfl) rfl (Rd.x (x_move rfl)) ?_
                refine sr_x rfl (wtd_yes rfl rfl rfl) rfl (Rd.x (x_move rfl)) ?_
                refine sr_x rfl (wtd_yes rfl rfl rfl) rfl (Rd.x (x_move rfl)) ?_
                refine sr_cmp rfl (wtd_yes rfl rfl rfl) rfl (Rd.x (x_lt rfl rfl)) (fun h15 => ?_) (fun h15 => ?_)
                · refine sr_x rfl (wtd_none rfl) rfl (Rd.x (x_pick_t rfl rfl rfl)) ?_
                  refine sr_nil ?_
                  refine aw_keep (keep_cons (t := 0) rfl (keep_cons (t := 1) rfl (keep_cons (t := 3) rfl (keep_cons (t := 4) rfl (keep_cons (t := 18) rfl (keep_cons (t := 20) rfl (keep_cons (t := 24) rfl (keep_cons (t := 199) rfl keep_nil)))))))) ?_
                  refine aw_true rfl ?_
                  refine aw_region ?_
                  refine sr_x rfl (wtd_none rfl) rfl (Rd.x (x_move rfl)) ?_
                  refine sr_x rfl (wtd_none rfl) rfl (Rd.x (x_move rfl)) ?_
                  refine sr_x rfl (wtd_none rfl) rfl (Rd.x (x_move rfl)) ?_
                  refine sr_x rfl (wtd_none rfl) rfl (Rd.x (x_move rfl)) ?_
                  refine sr_x rfl (wtd_none rfl) rfl (Rd.x (x_move rfl)) ?_
                  refine sr_d rfl (wtd_none rfl) rfl (opS_call rfl rfl rfl rfl cl82 (AC.sub (by repeat (first | exact Sub.refl _ | refine Sub.take (by repeat (first | exact Take.here | apply Take.there | apply Take.app)) ?_ | refine Sub.takeE (by repeat (first | exact TakeE.here | apply TakeE.there | apply TakeE.app)) ?_ | exact Sub.nil _ | apply Sub.drop | apply Sub.dropE)) (ih W1 a i d (by omega) (by omega) (by omega) (by omega) (by omega) (hp4.1) (hp4.2.1)))) ?_
                  rintro _ _ ⟨W8, hmg8, rfl, rfl⟩
                  refine sr_nil ?_
                  show ∃ s', _ ∧ _ ∧ _
                  first | exact ⟨W8, ⟨hmg8.2.1.1.trans hl1, hmg8⟩, (by repeat (first | exact keep_nil | refine keep_cons rfl ?_)), (by repeat (first | exact Sub.refl _ | refine Sub.take (by repeat (first | exact Take.here | apply Take.there | apply Take.app)) ?_ | refine Sub.takeE (by repeat (first | exact TakeE.here | apply TakeE.there | apply TakeE.app)) ?_ | exact Sub.nil _ | apply Sub.drop | apply Sub.dropE))⟩ | exact ⟨W1, ⟨hl1, Mg.triv (by omega) hp4.1 hp4.2.1⟩, (by repeat (first | exact keep_nil | refine keep_cons rfl ?_)), (by repeat (first | exact Sub.refl _ | refine Sub.take (by repeat (first | exact Take.here | apply Take.there | apply Take.app)) ?_ | refine Sub.takeE (by repeat (first | exact TakeE.here | apply TakeE.there | apply TakeE.app)) ?_ | exact Sub.nil _ | apply Sub.drop | apply Sub.dropE))⟩
                · refine sr_x rfl (wtd_none rfl) rfl (Rd.x (x_pick_t rfl rfl rfl)) ?_
                  refine sr_nil ?_
                  refine aw_keep (keep_cons (t := 0) rfl (keep_cons (t := 1) rfl (keep_cons (t := 3) rfl (keep_cons (t := 4) rfl (keep_cons (t := 18) rfl (keep_cons (t := 20) rfl (keep_cons (t := 24) rfl (keep_cons (t := 199) rfl keep_nil)))))))) ?_
                  refine aw_false rfl ?_
                  refine aw_skip ?_
                  show ∃ s', _ ∧ _ ∧ _
                  first | exact ⟨W8, ⟨hmg8.2.1.1.trans hl1, hmg8⟩, (by repeat (first | exact keep_nil | refine keep_cons rfl ?_)), (by repeat (first | exact Sub.refl _ | refine Sub.take (by repeat (first | exact Take.here | apply Take.there | apply Take.app)) ?_ | refine Sub.takeE (by repeat (first | exact TakeE.here | apply TakeE.there | apply TakeE.app)) ?_ | exact Sub.nil _ | apply Sub.drop | apply Sub.dropE))⟩ | exact ⟨W1, ⟨hl1, Mg.triv (by omega) hp4.1 hp4.2.1⟩, (by repeat (first | exact keep_nil | refine keep_cons rfl ?_)), (by repeat (first | exact Sub.refl _ | refine Sub.take (by repeat (first | exact Take.here | apply Take.there | apply Take.app)) ?_ | refine Sub.takeE (by repeat (first | exact TakeE.here | apply TakeE.there | apply TakeE.app)) ?_ | exact Sub.nil _ | apply Sub.drop | apply Sub.dropE))⟩
              · refine sr_x rfl (wtd_none rfl) rfl (Rd.x (x_move rfl)) ?_
                refine sr_skip rfl (wtd_no rfl rfl rfl rfl) rfl ?_
                refine sr_skip rfl (wtd_no rfl rfl rfl rfl) rfl ?_
                refine sr_skip rfl (wtd_no rfl rfl rfl rfl) rfl ?_
                refine sr_x rfl (wtd_none rfl) rfl (Rd.x (x_pick_f rfl rfl rfl)) ?_
                refine sr_nil ?_
                refine aw_keep (keep_cons (t := 0) rfl (keep_cons (t := 1) rfl (keep_cons (t := 3) rfl (keep_cons (t := 4) rfl (keep_cons (t := 18) rfl (keep_cons (t := 20) rfl (keep_cons (t := 24) rfl (keep_cons (t := 199) rfl keep_nil)))))))) ?_
                refine aw_false rfl ?_
                refine aw_skip ?_
                show ∃ s', _ ∧ _ ∧ _
                first | exact ⟨W8, ⟨hmg8.2.1.1.trans hl1, hmg8⟩, (by repeat (first | exact keep_nil | refine keep_cons rfl ?_)), (by repeat (first | exact Sub.refl _ | refine Sub.take (by repeat (first | exact Take.here | apply Take.there | apply Take.app)) ?_ | refine Sub.takeE (by repeat (first | exact TakeE.here | apply TakeE.there | apply TakeE.app)) ?_ | exact Sub.nil _ | apply Sub.drop | apply Sub.dropE))⟩ | exact ⟨W1, ⟨hl1, Mg.triv (by omega) hp4.1 hp4.2.1⟩, (by repeat (first | exact keep_nil | refine keep_cons rfl ?_)), (by repeat (first | exact Sub.refl _ | refine Sub.take (by repeat (first | exact Take.here | apply Take.there | apply Take.app)) ?_ | refine Sub.takeE (by repeat (first | exact TakeE.here | apply TakeE.there | apply TakeE.app)) ?_ | exact Sub.nil _ | apply Sub.drop | apply Sub.dropE))⟩
            · intro W2 hW2
              obtain ⟨hl2, hmg2⟩ := hW2
              refine aw_seq_region ?_
              refine sr_x rfl (wtd_none rfl) rfl (Rd.x (x_move rfl)) ?_
              refine sr_x rfl (wtd_none rfl) rfl (Rd.x (x_move rfl)) ?_
              refine sr_cmp rfl (wtd_none rfl) rfl (Rd.x (x_lt rfl rfl)) (fun h16 => ?_) (fun h16 => ?_)
              · refine sr_x rfl (wtd_none rfl) rfl (Rd.x (x_move rfl)) ?_
                refine sr_x rfl (wtd_yes rfl rfl rfl) rfl (Rd.x (x_move rfl)) ?_
                refine sr_x rfl (wtd_yes rfl rfl rfl) rfl (Rd.x (x_move rfl)) ?_
                refine sr_cmp rfl (wtd_yes rfl rfl rfl) rfl (Rd.x (x_lt rfl rfl)) (fun h17 => ?_) (fun h17 => ?_)
                · refine sr_x rfl (wtd_none rfl) rfl (Rd.x (x_pick_t rfl rfl rfl)) ?_
                  refine sr_nil ?_
                  refine aw_keep (keep_cons (t := 0) rfl (keep_cons (t := 3) rfl (keep_cons (t := 4) rfl (keep_cons (t := 18) rfl (keep_cons (t := 24) rfl (keep_cons (t := 213) rfl keep_nil)))))) ?_
                  refine aw_true rfl ?_
                  refine aw_region ?_
                  refine sr_x rfl (wtd_none rfl) rfl (Rd.x (x_move rfl)) ?_
                  refine sr_x rfl (wtd_none rfl) rfl (Rd.x (x_move rfl)) ?_
                  refine sr_x rfl (wtd_none rfl) rfl (Rd.x (x_move rfl)) ?_
                  refine sr_x rfl (wtd_none rfl) rfl (Rd.x (x_move rfl)) ?_
                  refine sr_x rfl (wtd_none rfl) rfl (Rd.x (x_move rfl)) ?_
                  refine sr_d rfl (wtd_none rfl) rfl (opS_call rfl rfl rfl rfl cl82 (AC.sub (by repeat (first | exact Sub.refl _ | refine Sub.take (by repeat (first | exact Take.here | apply Take.there | apply Take.app)) ?_ | refine Sub.takeE (by repeat (first | exact TakeE.here | apply TakeE.there | apply TakeE.app)) ?_ | exact Sub.nil _ | apply Sub.drop | apply Sub.dropE)) (ih W2 d (d + m - i) e (by omega) (by omega) (by omega) (by omega) (by omega) ((hp4.2.2.1.same fun k q1 q2 => hmg2.2.1.2.1 k (by omega))) ((hp4.2.2.2.1.same fun k q1 q2 => hmg2.2.1.2.1 k (by omega)))))) ?_
                  rintro _ _ ⟨W3, hmg3, rfl, rfl⟩
                  refine sr_nil ?_
                  show ∃ v H2, ResV _ _ _ _ _ _ v ∧ Sub H2 _ ∧ _
                  first | (obtain rfl : i = j := (by omega); obtain rfl : m = a + 1 := (by omega); obtain rfl : i = k + 1 := (by omega); exact ⟨_, _, resV rfl .nil, Sub.refl _, cur, Mg.one_up hsw (by omega) (by omega) (by omega) hB (fun h q1 q2 => Classical.not_not.1 (hb4 h q1 q2)) hb5 hmv, rfl, rfl⟩) | (obtain rfl : i = j := (by omega); obtain rfl : e = m + 1 := (by omega); obtain rfl : k = i := (by omega); exact ⟨_, _, resV rfl .nil, Sub.refl _, cur, Mg.one_down hsw (by omega) (by omega) (by omega) hA hb4 hb5 hmv, rfl, rfl⟩) | exact ⟨_, _, resV rfl .nil, Sub.refl _, W3, merge_end (by omega) hst1 hin1 hp4 hmg2 hmg3, rfl, rfl⟩ | exact ⟨_, _, resV rfl .nil, Sub.refl _, W2, merge_end (by omega) hst1 hin1 hp4 hmg2 (Mg.triv (s := d + m - i) (by omega) (hp4.2.2.1.same fun k q1 q2 => hmg2.2.1.2.1 k (by omega)) (hp4.2.2.2.1.same fun k q1 q2 => hmg2.2.1.2.1 k (by omega))), rfl, rfl⟩
                · refine sr_x rfl (wtd_none rfl) rfl (Rd.x (x_pick_t rfl rfl rfl)) ?_
                  refine sr_nil ?_
                  refine aw_keep (keep_cons (t := 0) rfl (keep_cons (t := 3) rfl (keep_cons (t := 4) rfl (keep_cons (t := 18) rfl (keep_cons (t := 24) rfl (keep_cons (t := 213) rfl keep_nil)))))) ?_
                  refine aw_false rfl ?_
                  refine aw_skip ?_
                  show ∃ v H2, ResV _ _ _ _ _ _ v ∧ Sub H2 _ ∧ _
                  first | (obtain rfl : i = j := (by omega); obtain rfl : m = a + 1 := (by omega); obtain rfl : i = k + 1 := (by omega); exact ⟨_, _, resV rfl .nil, Sub.refl _, cur, Mg.one_up hsw (by omega) (by omega) (by omega) hB (fun h q1 q2 => Classical.not_not.1 (hb4 h q1 q2)) hb5 hmv, rfl, rfl⟩) | (obtain rfl : i = j := (by omega); obtain rfl : e = m + 1 := (by omega); obtain rfl : k = i := (by omega); exact ⟨_, _, resV rfl .nil, Sub.refl _, cur, Mg.one_down hsw (by omega) (by omega) (by omega) hA hb4 hb5 hmv, rfl, rfl⟩) | exact ⟨_, _, resV rfl .nil, Sub.refl _, W3, merge_end (by omega) hst1 hin1 hp4 hmg2 hmg3, rfl, rfl⟩ | exact ⟨_, _, resV rfl .nil, Sub.refl _, W2, merge_end (by omega) hst1 hin1 hp4 hmg2 (Mg.triv (s := d + m - i) (by omega) (hp4.2.2.1.same fun k q1 q2 => hmg2.2.1.2.1 k (by omega)) (hp4.2.2.2.1.same fun k q1 q2 => hmg2.2.1.2.1 k (by omega))), rfl, rfl⟩
              · refine sr_x rfl (wtd_none rfl) rfl (Rd.x (x_move rfl)) ?_
                refine sr_skip rfl (wtd_no rfl rfl rfl rfl) rfl ?_
                refine sr_skip rfl (wtd_no rfl rfl rfl rfl) rfl ?_
                refine sr_skip rfl (wtd_no rfl rfl rfl rfl) rfl ?_
                refine sr_x rfl (wtd_none rfl) rfl (Rd.x (x_pick_f rfl rfl rfl)) ?_
                refine sr_nil ?_
                refine aw_keep (keep_cons (t := 0) rfl (keep_cons (t := 3) rfl (keep_cons (t := 4) rfl (keep_cons (t := 18) rfl (keep_cons (t := 24) rfl (keep_cons (t := 213) rfl keep_nil)))))) ?_
                refine aw_false rfl ?_
                refine aw_skip ?_
                show ∃ v H2, ResV _ _ _ _ _ _ v ∧ Sub H2 _ ∧ _
                first | (obtain rfl : i = j := (by omega); obtain rfl : m = a + 1 := (by omega); obtain rfl : i = k + 1 := (by omega); exact ⟨_, _, resV rfl .nil, Sub.refl _, cur, Mg.one_up hsw (by omega) (by omega) (by omega) hB (fun h q1 q2 => Classical.not_not.1 (hb4 h q1 q2)) hb5 hmv, rfl, rfl⟩) | (obtain rfl : i = j := (by omega); obtain rfl : e = m + 1 := (by omega); obtain rfl : k = i := (by omega); exact ⟨_, _, resV rfl .nil, Sub.refl _, cur, Mg.one_down hsw (by omega) (by omega) (by omega) hA hb4 hb5 hmv, rfl, rfl⟩) | exact ⟨_, _, resV rfl .nil, Sub.refl _, W3, merge_end (by omega) hst1 hin1 hp4 hmg2 hmg3, rfl, rfl⟩ | exact ⟨_, _, resV rfl .nil, Sub.refl _, W2, merge_end (by omega) hst1 hin1 hp4 hmg2 (Mg.triv (s := d + m - i) (by omega) (hp4.2.2.1.same fun k q1 q2 => hmg2.2.1.2.1 k (by omega)) (hp4.2.2.2.1.same fun k q1 q2 => hmg2.2.1.2.1 k (by omega))), rfl, rfl⟩
      · refine sr_nil ?_
        refine aw_keep (keep_cons (t := 0) rfl (keep_cons (t := 1) rfl (keep_cons (t := 2) rfl (keep_cons (t := 3) rfl (keep_cons (t := 4) rfl (keep_cons (t := 18) rfl (keep_cons (t := 19) rfl (keep_cons (t := 20) rfl (keep_cons (t := 21) rfl (keep_cons (t := 140) rfl keep_nil)))))))))) ?_
        refine aw_false rfl ?_
        refine aw_seq_region ?_
        refine sr_x rfl (wtd_none rfl) rfl (Rd.x (x_move rfl)) ?_
        refine sr_x rfl (wtd_none rfl) rfl (Rd.x (x_assign rfl)) ?_
        refine sr_nil ?_
        refine aw_keep (keep_cons (t := 0) rfl (keep_cons (t := 1) rfl (keep_cons (t := 2) rfl (keep_cons (t := 3) rfl (keep_cons (t := 4) rfl (keep_cons (t := 18) rfl (keep_cons (t := 19) rfl (keep_cons (t := 20) rfl (keep_cons (t := 21) rfl keep_nil))))))))) ?_
        refine aw_region ?_
        refine sr_x rfl (wtd_none rfl) rfl (Rd.x (x_move rfl)) ?_
        refine sr_x rfl (wtd_none rfl) rfl (Rd.x (x_assign rfl)) ?_
        refine sr_nil ?_
        show AW _ _ _ _ _ _ _
        refine aw_seq_region ?_
        refine sr_x rfl (wtd_none rfl) rfl (Rd.x (x_move rfl)) ?_
        refine sr_x rfl (wtd_none rfl) rfl (Rd.x (x_cast (u := .int .i64 ((d + m - 1 : Nat) : Int)) (x_sub' rfl rfl (i64w (by omega) (by omega))) (by congr 1; omega))) ?_
        refine sr_x rfl (wtd_none rfl) rfl (Rd.x (x_assign rfl)) ?_
        refine sr_nil ?_
        refine aw_keep (keep_cons (t := 0) rfl (keep_cons (t := 1) rfl (keep_cons (t := 2) rfl (keep_cons (t := 3) rfl (keep_cons (t := 4) rfl (keep_cons (t := 18) rfl (keep_cons (t := 19) rfl (keep_cons (t := 20) rfl (keep_cons (t := 21) rfl (keep_cons (t := 22) rfl keep_nil)))))))))) ?_
        refine aw_seq ?_
        refine aw_block ?_
        refine aw_loop (ι := SeaG) (fun s => Sea (fun h => c (gd W (d + m - 1 - h)) (gd W h) < 0) a m s.i s.j) (fun s => [(0, .slice (some ⟨b, 0, none⟩) n cap), (1, .int .i64 a), (2, .int .i64 m), (3, .int .i64 e), (4, .func (.func 70) #[] #[.pointer (some ⟨q1, 0, none⟩), .pointer (some ⟨q2, 0, none⟩)]), (18, .int .i64 d), (19, .int .i64 ((d + m : Nat) : Int)), (20, .int .i64 s.i), (21, .int .i64 s.j), (22, .int .i64 ((d + m - 1 : Nat) : Int))]) (fun _ => (b, .cells ((W).flatMap WA.cells ++ post).toArray 77 (0, 0)) :: G) (fun s => s.j - s.i) ⟨a, m⟩ (Sea.start (by omega)) (by repeat (first | exact keep_nil | refine keep_cons rfl ?_)) (by repeat (first | exact Sub.refl _ | refine Sub.take (by repeat (first | exact Take.here | apply Take.there | apply Take.app)) ?_ | refine Sub.takeE (by repeat (first | exact TakeE.here | apply TakeE.there | apply TakeE.app)) ?_ | exact Sub.nil _ | apply Sub.drop | apply Sub.dropE)) ?_
        intro s hs9
        obtain ⟨i, j⟩ := s
        dsimp only at hs9 ⊢
        have hse := hs9
        obtain ⟨hb1, hb2, hb3, hb4, hb5⟩ := hs9
        refine aw_seq ?_
        refine aw_seq_region ?_
        refine sr_x rfl (wtd_none rfl) rfl (Rd.x (x_move rfl)) ?_
        refine sr_x rfl (wtd_none rfl) rfl (Rd.x (x_move rfl)) ?_
        refine sr_cmp rfl (wtd_none rfl) rfl (Rd.x (x_lt rfl rfl)) (fun h18 => ?_) (fun h18 => ?_)
        · refine sr_nil ?_
          refine aw_keep (keep_cons (t := 0) rfl (keep_cons (t := 1) rfl (keep_cons (t := 2) rfl (keep_cons (t := 3) rfl (keep_cons (t := 4) rfl (keep_cons (t := 18) rfl (keep_cons (t := 19) rfl (keep_cons (t := 20) rfl (keep_cons (t := 21) rfl (keep_cons (t := 22) rfl (keep_cons (t := 149) rfl (keep_cons (t := 150) rfl (keep_cons (t := 151) rfl keep_nil))))))))))))) ?_
          refine aw_true rfl ?_
          refine aw_skip ?_
          show AW _ _ _ _ _ _ _
          refine aw_block ?_
          refine aw_seq_region ?_
          refine sr_x rfl (wtd_none rfl) rfl (Rd.x (x_move rfl)) ?_
          refine sr_x rfl (wtd_none rfl) rfl (Rd.x (x_move rfl)) ?_
          refine sr_x rfl (wtd_none rfl) rfl (Rd.x (x_add' rfl rfl (i64w (by omega) (by omega)))) ?_
          refine sr_x rfl (wtd_none rfl) rfl (Rd.x (x_conv' Try.underlying3 Try.underlying116 rfl (u64w (by omega) (by omega)))) ?_
          refine sr_x rfl (wtd_none rfl) rfl (Rd.x (x_cast (x_shr rfl rfl (by omega)) (shrH (i) (j)))) ?_
          refine sr_x rfl (wtd_none rfl) rfl (Rd.x (x_conv' Try.underlying116 Try.underlying3 rfl (i64w (by omega) (by omega)))) ?_
          refine sr_x rfl (wtd_none rfl) rfl (Rd.x (x_assign rfl)) ?_
          refine sr_nil ?_
          refine aw_keep (keep_cons (t := 0) rfl (keep_cons (t := 1) rfl (keep_cons (t := 2) rfl (keep_cons (t := 3) rfl (keep_cons (t := 4) rfl (keep_cons (t := 18) rfl (keep_cons (t := 19) rfl (keep_cons (t := 20) rfl (keep_cons (t := 21) rfl (keep_cons (t := 22) rfl (keep_cons (t := 23) rfl (keep_cons (t := 149) rfl (keep_cons (t := 150) rfl (keep_cons (t := 151) rfl (keep_cons (t := 152) rfl (keep_cons (t := 153) rfl (keep_cons (t := 154) rfl (keep_cons (t := 155) rfl (keep_cons (t := 156) rfl (keep_cons (t := 157) rfl keep_nil)))))))))))))))))))) ?_
          refine aw_seq_dr ⟨_, 14, 220, [[], [], [], [], [2, 3], [1, 2, 3, 4], [1, 2, 3, 4, 5], [], [], [7, 8], [7, 8, 9], [0, 1, 2, 3, 4, 5, 6, 7, 8, 9, 10], [0, 1, 2, 3, 4, 5, 6, 7, 8, 9, 10, 11], [0, 1, 2, 3, 4, 5, 6, 7, 8, 9, 10, 11, 12]], [.light, .light, .light, .light, .light, .light, .mem, .light, .light, .light, .mem, .call, .light, .light]⟩ (by kernel_rfl) rfl rfl mix ?_
          refine dr_light rfl rfl (wtd_none rfl) (x_move rfl) ?_
          refine dr_light rfl rfl (wtd_none rfl) (x_move rfl) ?_
          refine dr_light rfl rfl (wtd_none rfl) (x_move rfl) ?_
          refine dr_light rfl rfl (wtd_none rfl) (x_move rfl) ?_
          refine dr_light rfl rfl (wtd_none rfl) (x_cast (u := .int .i64 ((d + m - 1 - (i + j) / 2 : Nat) : Int)) (x_sub' rfl rfl (i64w (by omega) (by omega))) (by congr 1; omega)) ?_
          refine dr_light rfl rfl (wtd_none rfl) (x_indexAddrN (d + m - 1 - (i + j) / 2) Try.underlying72 sz77 rfl rfl rfl (by omega) (by omega)) ?_
          refine dr_mem0 rfl rfl (wtd_none rfl) (x_loadN ag77 sz77 rfl ((cells_flat0 (n := 11) (enc := WA.cells) (fun _ => rfl) (xs := W) (post := post) (show (b, Obj.cells ((W).flatMap WA.cells ++ post).toArray 77 (0, 0)) ∈ _ from (by repeat (first | exact List.mem_cons_self | apply List.mem_cons_of_mem | apply List.mem_append_right))) (gd_some (by omega)))) rfl) ?_
          refine dr_light rfl rfl (wtd_none rfl) (x_move rfl) ?_
          refine dr_light rfl rfl (wtd_none rfl) (x_move rfl) ?_
          refine dr_light rfl rfl (wtd_none rfl) (x_indexAddrN ((i + j) / 2) Try.underlying72 sz77 rfl rfl rfl (by omega) (by omega)) ?_
          refine dr_mem0 rfl rfl (wtd_none rfl) (x_loadN ag77 sz77 rfl ((cells_flat0 (n := 11) (enc := WA.cells) (fun _ => rfl) (xs := W) (post := post) (show (b, Obj.cells ((W).flatMap WA.cells ++ post).toArray 77 (0, 0)) ∈ _ from (by repeat (first | exact List.mem_cons_self | apply List.mem_cons_of_mem | apply List.mem_append_right))) (gd_some (by omega)))) rfl) ?_
          refine dr_callq0 rfl rfl (wtd_none rfl) (opS_F rfl rfl rfl rfl cl70 ((hcmp (gd W (d + m - 1 - (i + j) / 2)) (gd W ((i + j) / 2)) _ (by repeat (first | exact Sub.refl _ | apply Sub.drop | apply Sub.dropE))))) (⟨_, rfl⟩) ?_
          rintro _ rfl
          refine dr_cmp rfl rfl (wtd_none rfl) (x_lt rfl rfl) (fun h19 => ?_) (fun h19 => ?_)
          · refine dr_light rfl rfl (wtd_none rfl) (x_not rfl) ?_
            refine dr_nil0 ?_
            refine aw_keep (keep_cons (t := 0) rfl (keep_cons (t := 1) rfl (keep_cons (t := 2) rfl (keep_cons (t := 3) rfl (keep_cons (t := 4) rfl (keep_cons (t := 18) rfl (keep_cons (t := 19) rfl (keep_cons (t := 20) rfl (keep_cons (t := 21) rfl (keep_cons (t := 22) rfl (keep_cons (t := 23) rfl (keep_cons (t := 149) rfl (keep_cons (t := 150) rfl (keep_cons (t := 151) rfl (keep_cons (t := 152) rfl (keep_cons (t := 153) rfl (keep_cons (t := 154) rfl (keep_cons (t := 155) rfl (keep_cons (t := 156) rfl (keep_cons (t := 157) rfl (keep_cons (t := 158) rfl (keep_cons (t := 159) rfl (keep_cons (t := 160) rfl (keep_cons (t := 161) rfl (keep_cons (t := 162) rfl (keep_cons (t := 163) rfl (keep_cons (t := 164) rfl (keep_cons (t := 165) rfl (keep_cons (t := 166) rfl (keep_cons (t := 167) rfl (keep_cons (t := 168) rfl (keep_cons (t := 169) rfl (keep_cons (t := 170) rfl (keep_cons (t := 171) rfl keep_nil)))))))))))))))))))))))))))))))))) ?_
            refine aw_false rfl ?_
            refine aw_region ?_
            refine sr_x rfl (wtd_none rfl) rfl (Rd.x (x_move rfl)) ?_
            refine sr_x rfl (wtd_none rfl) rfl (Rd.x (x_assign rfl)) ?_
            refine sr_nil ?_
            show ∃ s', _ ∧ _ ∧ _ ∧ _
            first | exact ⟨⟨(i + j) / 2 + 1, j⟩, hse.right (mono_mid hsw hA hB (by omega) (by omega) (fun h q1 q2 => by omega) : ∀ x y, a ≤ x → x ≤ y → y < m → (fun h => c (gd W (d + m - 1 - h)) (gd W h) < 0) x → (fun h => c (gd W (d + m - 1 - h)) (gd W h) < 0) y) (by omega) (by assumption), by dsimp only; omega, (by repeat (first | exact keep_nil | refine keep_cons rfl ?_)), (by repeat (first | exact Sub.refl _ | refine Sub.take (by repeat (first | exact Take.here | apply Take.there | apply Take.app)) ?_ | refine Sub.takeE (by repeat (first | exact TakeE.here | apply TakeE.there | apply TakeE.app)) ?_ | exact Sub.nil _ | apply Sub.drop | apply Sub.dropE))⟩ | exact ⟨⟨i, (i + j) / 2⟩, hse.left (mono_mid hsw hA hB (by omega) (by omega) (fun h q1 q2 => by omega) : ∀ x y, a ≤ x → x ≤ y → y < m → (fun h => c (gd W (d + m - 1 - h)) (gd W h) < 0) x → (fun h => c (gd W (d + m - 1 - h)) (gd W h) < 0) y) (by omega) (by assumption), by dsimp only; omega, (by repeat (first | exact keep_nil | refine keep_cons rfl ?_)), (by repeat (first | exact Sub.refl _ | refine Sub.take (by repeat (first | exact Take.here | apply Take.there | apply Take.app)) ?_ | refine Sub.takeE (by repeat (first | exact TakeE.here | apply TakeE.there | apply TakeE.app)) ?_ | exact Sub.nil _ | apply Sub.drop | apply Sub.dropE))⟩
          · refine dr_light rfl rfl (wtd_none rfl) (x_not rfl) ?_
            refine dr_nil0 ?_
            refine aw_keep (keep_cons (t := 0) rfl (keep_cons (t := 1) rfl (keep_cons (t := 2) rfl (keep_cons (t := 3) rfl (keep_cons (t := 4) rfl (keep_cons (t := 18) rfl (keep_cons (t := 19) rfl (keep_cons (t := 20) rfl (keep_cons (t := 21) rfl (keep_cons (t := 22) rfl (keep_cons (t := 23) rfl (keep_cons (t := 149) rfl (keep_cons (t := 150) rfl (keep_cons (t := 151) rfl (keep_cons (t := 152) rfl (keep_cons (t := 153) rfl (keep_cons (t := 154) rfl (keep_cons (t := 155) rfl (keep_cons (t := 156) rfl (keep_cons (t := 157) rfl (keep_cons (t := 158) rfl (keep_cons (t := 159) rfl (keep_cons (t := 160) rfl (keep_cons (t := 161) rfl (keep_cons (t := 162) rfl (keep_cons (t := 163) rfl (keep_cons (t := 164) rfl (keep_cons (t := 165) rfl (keep_cons (t := 166) rfl (keep_cons (t := 167) rfl (keep_cons (t := 168) rfl (keep_cons (t := 169) rfl (keep_cons (t := 170) rfl (keep_cons (t := 171) rfl keep_nil)))))))))))))))))))))))))))))))))) ?_
            refine aw_true rfl ?_
            refine aw_region ?_
            refine sr_x rfl (wtd_none rfl) rfl (Rd.x (x_move rfl)) ?_
            refine sr_x rfl (wtd_none rfl) rfl (Rd.x (x_add' rfl rfl (i64w (by omega) (by omega)))) ?_
            refine sr_x rfl (wtd_none rfl) rfl (Rd.x (x_assign rfl)) ?_
            refine sr_nil ?_
            show ∃ s', _ ∧ _ ∧ _ ∧ _
            first | exact ⟨⟨(i + j) / 2 + 1, j⟩, hse.right (mono_mid hsw hA hB (by omega) (by omega) (fun h q1 q2 => by omega) : ∀ x y, a ≤ x → x ≤ y → y < m → (fun h => c (gd W (d + m - 1 - h)) (gd W h) < 0) x → (fun h => c (gd W (d + m - 1 - h)) (gd W h) < 0) y) (by omega) (by assumption), by dsimp only; omega, (by repeat (first | exact keep_nil | refine keep_cons rfl ?_)), (by repeat (first | exact Sub.refl _ | refine Sub.take (by repeat (first | exact Take.here | apply Take.there | apply Take.app)) ?_ | refine Sub.takeE (by repeat (first | exact TakeE.here | apply TakeE.there | apply TakeE.app)) ?_ | exact Sub.nil _ | apply Sub.drop | apply Sub.dropE))⟩ | exact ⟨⟨i, (i + j) / 2⟩, hse.left (mono_mid hsw hA hB (by omega) (by omega) (fun h q1 q2 => by omega) : ∀ x y, a ≤ x → x ≤ y → y < m → (fun h => c (gd W (d + m - 1 - h)) (gd W h) < 0) x → (fun h => c (gd W (d + m - 1 - h)) (gd W h) < 0) y) (by omega) (by assumption), by dsimp only; omega, (by repeat (first | exact keep_nil | refine keep_cons rfl ?_)), (by repeat (first | exact Sub.refl _ | refine Sub.take (by repeat (first | exact Take.here | apply Take.there | apply Take.app)) ?_ | refine Sub.takeE (by repeat (first | exact TakeE.here | apply TakeE.there | apply TakeE.app)) ?_ | exact Sub.nil _ | apply Sub.drop | apply Sub.dropE))⟩
        · refine sr_nil ?_
          refine aw_keep (keep_cons (t := 0) rfl (keep_cons (t := 1) rfl (keep_cons (t := 2) rfl (keep_cons (t := 3) rfl (keep_cons (t := 4) rfl (keep_cons (t := 18) rfl (keep_cons (t := 19) rfl (keep_cons (t := 20) rfl (keep_cons (t := 21) rfl (keep_cons (t := 22) rfl (keep_cons (t := 149) rfl (keep_cons (t := 150) rfl (keep_cons (t := 151) rfl keep_nil))))))))))))) ?_
          refine aw_false rfl ?_
          refine aw_exit ?_
          show AW _ _ _ _ _ _ _
          refine aw_seq_region ?_
          refine sr_x rfl (wtd_none rfl) rfl (Rd.x (x_move rfl)) ?_
          refine sr_x rfl (wtd_none rfl) rfl (Rd.x (x_move rfl)) ?_
          refine sr_x rfl (wtd_none rfl) rfl (Rd.x (x_cast (u := .int .i64 ((d + m - i : Nat) : Int)) (x_sub' rfl rfl (i64w (by omega) (by omega))) (by congr 1; omega))) ?_
          refine sr_x rfl (wtd_none rfl) rfl (Rd.x (x_assign rfl)) ?_
          refine sr_nil ?_
          refine aw_keep (keep_cons (t := 0) rfl (keep_cons (t := 1) rfl (keep_cons (t := 2) rfl (keep_cons (t := 3) rfl (keep_cons (t := 4) rfl (keep_cons (t := 18) rfl (keep_cons (t := 20) rfl (keep_cons (t := 24) rfl keep_nil)))))))) ?_
          refine aw_join (ι := List WA) (fun W1 => W1.length = n ∧ Mv W (rotF i m (d + m - i)) W1) (fun W1 => [(0, .slice (some ⟨b, 0, none⟩) n cap), (1, .int .i64 a), (3, .int .i64 e), (4, .func (.func 70) #[] #[.pointer (some ⟨q1, 0, none⟩), .pointer (some ⟨q2, 0, none⟩)]), (18, .int .i64 d), (20, .int .i64 i), (24, .int .i64 ((d + m - i : Nat) : Int))]) (fun W1 => (b, .cells ((W1).flatMap WA.cells ++ post).toArray 77 (0, 0)) :: G) ?_ ?_
          · refine aw_seq_region ?_
            refine sr_x rfl (wtd_none rfl) rfl (Rd.x (x_move rfl)) ?_
            refine sr_x rfl (wtd_none rfl) rfl (Rd.x (x_move rfl)) ?_
            refine sr_cmp rfl (wtd_none rfl) rfl (Rd.x (x_lt rfl rfl)) (fun h20 => ?_) (fun h20 => ?_)
            · refine sr_x rfl (wtd_none rfl) rfl (Rd.x (x_move rfl)) ?_
              refine sr_x rfl (wtd_yes rfl rfl rfl) rfl (Rd.x (x_move rfl)) ?_
              refine sr_x rfl (wtd_yes rfl rfl rfl) rfl (Rd.x (x_move rfl)) ?_
              refine sr_cmp rfl (wtd_yes rfl rfl rfl) rfl (Rd.x (x_lt rfl rfl)) (fun h21 => ?_) (fun h21 => ?_)
              · refine sr_x rfl (wtd_none rfl) rfl (Rd.x (x_pick_t rfl rfl rfl)) ?_
                refine sr_nil ?_
                refine aw_keep (keep_cons (t := 0) rfl (keep_cons (t := 1) rfl (keep_cons (t := 2) rfl (keep_cons (t := 3) rfl (keep_cons (t := 4) rfl (keep_cons (t := 18) rfl (keep_cons (t := 20) rfl (keep_cons (t := 24) rfl (keep_cons (t := 185) rfl keep_nil))))))))) ?_
                refine aw_true rfl ?_
                refine aw_region ?_
                refine sr_x rfl (wtd_none rfl) rfl (Rd.x (x_move rfl)) ?_
                refine sr_x rfl (wtd_none rfl) rfl (Rd.x (x_move rfl)) ?_
                refine sr_x rfl (wtd_none rfl) rfl (Rd.x (x_move rfl)) ?_
                refine sr_x rfl (wtd_none rfl) rfl (Rd.x (x_move rfl)) ?_
                refine sr_x rfl (wtd_none rfl) rfl (Rd.x (x_move rfl)) ?_
                refine sr_d rfl (wtd_none rfl) rfl (opS_call rfl rfl rfl rfl cl84 (AC.sub (by repeat (first | exact Sub.refl _ | refine Sub.take (by repeat (first | exact Take.here | apply Take.there | apply Take.app)) ?_ | refine Sub.takeE (by repeat (first | exact TakeE.here | apply TakeE.there | apply TakeE.app)) ?_ | exact Sub.nil _ | apply Sub.drop | apply Sub.dropE)) (asRot_s b cap n W post G hl hn hcap hcb i m (d + m - i) (by omega) (by omega) (by omega)))) ?_
                rintro _ _ ⟨W9, hm9, rfl, rfl⟩
                refine sr_nil ?_
                show ∃ s', _ ∧ _ ∧ _
                first | exact ⟨W9, ⟨hm9.1.trans hl, hm9⟩, (by repeat (first | exact keep_nil | refine keep_cons rfl ?_)), (by repeat (first | exact Sub.refl _ | refine Sub.take (by repeat (first | exact Take.here | apply Take.there | apply Take.app)) ?_ | refine Sub.takeE (by repeat (first | exact TakeE.here | apply TakeE.there | apply TakeE.app)) ?_ | exact Sub.nil _ | apply Sub.drop | apply Sub.dropE))⟩ | exact ⟨W, ⟨hl, Mv.refl W (rotF_triv (by omega) (by omega) (by omega))⟩, (by repeat (first | exact keep_nil | refine keep_cons rfl ?_)), (by repeat (first | exact Sub.refl _ | refine Sub.take (by repeat (first | exact Take.here | apply Take.there | apply Take.app)) ?_ | refine Sub.takeE (by repeat (first | exact TakeE.here | apply TakeE.there | apply TakeE.app)) ?_ | exact Sub.nil _ | apply Sub.drop | apply Sub.dropE))⟩
              · refine sr_x rfl (wtd_none rfl) rfl (Rd.x (x_pick_t rfl rfl rfl)) ?_
                refine sr_nil ?_
                refine aw_keep (keep_cons (t := 0) rfl (keep_cons (t := 1) rfl (keep_cons (t := 2) rfl (keep_cons (t := 3) rfl (keep_cons (t := 4) rfl (keep_cons (t := 18) rfl (keep_cons (t := 20) rfl (keep_cons (t := 24) rfl (keep_cons (t := 185) rfl keep_nil))))))))) ?_
                refine aw_false rfl ?_
                refine aw_skip ?_
                show ∃ s', _ ∧ _ ∧ _
                first | exact ⟨W9, ⟨hm9.1.trans hl, hm9⟩, (by repeat (first | exact keep_nil | refine keep_cons rfl ?_)), (by repeat (first | exact Sub.refl _ | refine Sub.take (by repeat (first | exact Take.here | apply Take.there | apply Take.app)) ?_ | refine Sub.takeE (by repeat (first | exact TakeE.here | apply TakeE.there | apply TakeE.app)) ?_ | exact Sub.nil _ | apply Sub.drop | apply Sub.dropE))⟩ | exact ⟨W, ⟨hl, Mv.refl W (rotF_triv (by omega) (by omega) (by omega))⟩, (by repeat (first | exact keep_nil | refine keep_cons rfl ?_)), (by repeat (first | exact Sub.refl _ | refine Sub.take (by repeat (first | exact Take.here | apply Take.there | apply Take.app)) ?_ | refine Sub.takeE (by repeat (first | exact TakeE.here | apply TakeE.there | apply TakeE.app)) ?_ | exact Sub.nil _ | apply Sub.drop | apply Sub.dropE))⟩
            · refine sr_x rfl (wtd_none rfl) rfl (Rd.x (x_move rfl)) ?_
              refine sr_skip rfl (wtd_no rfl rfl rfl rfl) rfl ?_
              refine sr_skip rfl (wtd_no rfl rfl rfl rfl) rfl ?_
              refine sr_skip rfl (wtd_no rfl rfl rfl rfl) rfl ?_
              refine sr_x rfl (wtd_none rfl) rfl (Rd.x (x_pick_f rfl rfl rfl)) ?_
              refine sr_nil ?_
              refine aw_keep (keep_cons (t := 0) rfl (keep_cons (t := 1) rfl (keep_cons (t := 2) rfl (keep_cons (t := 3) rfl (keep_cons (t := 4) rfl (keep_cons (t := 18) rfl (keep_cons (t := 20) rfl (keep_cons (t := 24) rfl (keep_cons (t := 185) rfl keep_nil))))))))) ?_
              refine aw_false rfl ?_
              refine aw_skip ?_
              show ∃ s', _ ∧ _ ∧ _
              first | exact ⟨W9, ⟨hm9.1.trans hl, hm9⟩, (by repeat (first | exact keep_nil | refine keep_cons rfl ?_)), (by repeat (first | exact Sub.refl _ | refine Sub.take (by repeat (first | exact Take.here | apply Take.there | apply Take.app)) ?_ | refine Sub.takeE (by repeat (first | exact TakeE.here | apply TakeE.there | apply TakeE.app)) ?_ | exact Sub.nil _ | apply Sub.drop | apply Sub.dropE))⟩ | exact ⟨W, ⟨hl, Mv.refl W (rotF_triv (by omega) (by omega) (by omega))⟩, (by repeat (first | exact keep_nil | refine keep_cons rfl ?_)), (by repeat (first | exact Sub.refl _ | refine Sub.take (by repeat (first | exact Take.here | apply Take.there | apply Take.app)) ?_ | refine Sub.takeE (by repeat (first | exact TakeE.here | apply TakeE.there | apply TakeE.app)) ?_ | exact Sub.nil _ | apply Sub.drop | apply Sub.dropE))⟩
          · intro W1 hW1
            obtain ⟨hl1, hm1⟩ := hW1
            obtain ⟨hst1, hin1, hp4⟩ := merge_cut (d := d) (s := i) (e := d + m - i) hsw (by omega) (by omega) (by omega) (by omega) (by omega) (by omega) (by omega) hA hB (fun q1 q2 => by have h7 : c (gd W (d + m - 1 - i)) (gd W i) < 0 := hb5 i (by omega) (by omega); rw [show d + m - i - 1 = d + m - 1 - i by omega]; exact h7) (fun q1 q2 => by have h7 : ¬ c (gd W (d + m - 1 - (i - 1))) (gd W (i - 1)) < 0 := hb4 (i - 1) (by omega) (by omega); rw [show d + m - 1 - (i - 1) = d + m - i by omega] at h7; exact h7) hm1
            refine aw_join (ι := List WA) (fun W2 => W2.length = n ∧ Mg c W1 a d W2) (fun W2 => [(0, .slice (some ⟨b, 0, none⟩) n cap), (3, .int .i64 e), (4, .func (.func 70) #[] #[.pointer (some ⟨q1, 0, none⟩), .pointer (some ⟨q2, 0, none⟩)]), (18, .int .i64 d), (24, .int .i64 ((d + m - i : Nat) : Int))]) (fun W2 => (b, .cells ((W2).flatMap WA.cells ++ post).toArray 77 (0, 0)) :: G) ?_ ?_
            · refine aw_seq_region ?_
              refine sr_x rfl (wtd_none rfl) rfl (Rd.x (x_move rfl)) ?_
              refine sr_x rfl (wtd_none rfl) rfl (Rd.x (x_move rfl)) ?_
              refine sr_cmp rfl (wtd_none rfl) rfl (Rd.x (x_lt rfl rfl)) (fun h22 => ?_) (fun h22 => ?_)
              · refine sr_x rfl (wtd_none rfl) rfl (Rd.x (x_move rfl)) ?_
                refine sr_x rfl (wtd_yes rfl rfl rfl) rfl (Rd.x (x_move rfl)) ?_
                refine sr_x rfl (wtd_yes rfl rfl rfl) rfl (Rd.x (x_move rfl)) ?_
                refine sr_cmp rfl (wtd_yes rfl rfl rfl) rfl (Rd.x (x_lt rfl rfl)) (fun h23 => ?_) (fun h23 => ?_)
                · refine sr_x rfl (wtd_none rfl) rfl (Rd.x (x_pick_t rfl rfl rfl)) ?_
                  refine sr_nil ?_
                  refine aw_keep (keep_cons (t := 0) rfl (keep_cons (t := 1) rfl (keep_cons (t := 3) rfl (keep_cons (t := 4) rfl (keep_cons (t := 18) rfl (keep_cons (t := 20) rfl (keep_cons (t := 24) rfl (keep_cons (t := 199) rfl keep_nil)))))))) ?_
                  refine aw_true rfl ?_
                  refine aw_region ?_
                  refine sr_x rfl (wtd_none rfl) rfl (Rd.x (x_move rfl)) ?_
                  refine sr_x rfl (wtd_none rfl) rfl (Rd.x (x_move rfl)) ?_
                  refine sr_x rfl (wtd_none rfl) rfl (Rd.x (x_move rfl)) ?_
                  refine sr_x rfl (wtd_none rfl) rfl (Rd.x (x_move rfl)) ?_
                  refine sr_x rfl (wtd_none rfl) rfl (Rd.x (x_move rfl)) ?_
                  refine sr_d rfl (wtd_none rfl) rfl (opS_call rfl rfl rfl rfl cl82 (AC.sub (by repeat (first | exact Sub.refl _ | refine Sub.take (by repeat (first | exact Take.here | apply Take.there | apply Take.app)) ?_ | refine Sub.takeE (by repeat (first | exact TakeE.here | apply TakeE.there | apply TakeE.app)) ?_ | exact Sub.nil _ | apply Sub.drop | apply Sub.dropE)) (ih W1 a i d (by omega) (by omega) (by omega) (by omega) (by omega) (hp4.1) (hp4.2.1)))) ?_
                  rintro _ _ ⟨W8, hmg8, rfl, rfl⟩
                  refine sr_nil ?_
                  show ∃ s', _ ∧ _ ∧ _
                  first | exact ⟨W8, ⟨hmg8.2.1.1.trans hl1, hmg8⟩, (by repeat (first | exact keep_nil | refine keep_cons rfl ?_)), (by repeat (first | exact Sub.refl _ | refine Sub.take (by repeat (first | exact Take.here | apply Take.there | apply Take.app)) ?_ | refine Sub.takeE (by repeat (first | exact TakeE.here | apply TakeE.there | apply TakeE.app)) ?_ | exact Sub.nil _ | apply Sub.drop | apply Sub.dropE))⟩ | exact ⟨W1, ⟨hl1, Mg.triv (by omega) hp4.1 hp4.2.1⟩, (by repeat (first | exact keep_nil | refine keep_cons rfl ?_)), (by repeat (first | exact Sub.refl _ | refine Sub.take (by repeat (first | exact Take.here | apply Take.there | apply Take.app)) ?_ | refine Sub.takeE (by repeat (first | exact TakeE.here | apply TakeE.there | apply TakeE.app)) ?_ | exact Sub.nil _ | apply Sub.drop | apply Sub.dropE))⟩
                · refine sr_x rfl (wtd_none rfl) rfl (Rd.x (x_pick_t rfl rfl rfl)) ?_
                  refine sr_nil ?_
                  refine aw_keep (keep_cons (t := 0) rfl (keep_cons (t := 1) rfl (keep_cons (t := 3) rfl (keep_cons (t := 4) rfl (keep_cons (t := 18) rfl (keep_cons (t := 20) rfl (keep_cons (t := 24) rfl (keep_cons (t := 199) rfl keep_nil)))))))) ?_
                  refine aw_false rfl ?_
                  refine aw_skip ?_
                  show ∃ s', _ ∧ _ ∧ _
                  first | exact ⟨W8, ⟨hmg8.2.1.1.trans hl1, hmg8⟩, (by repeat (first | exact keep_nil | refine keep_cons rfl ?_)), (by repeat (first | exact Sub.refl _ | refine Sub.take (by repeat (first | exact Take.here | apply Take.there | apply Take.app)) ?_ | refine Sub.takeE (by repeat (first | exact TakeE.here | apply TakeE.there | apply TakeE.app)) ?_ | exact Sub.nil _ | apply Sub.drop | apply Sub.dropE))⟩ | exact ⟨W1, ⟨hl1, Mg.triv (by omega) hp4.1 hp4.2.1⟩, (by repeat (first | exact keep_nil | refine keep_cons rfl ?_)), (by repeat (first | exact Sub.refl _ | refine Sub.take (by repeat (first | exact Take.here | apply Take.there | apply Take.app)) ?_ | refine Sub.takeE (by repeat (first | exact TakeE.here | apply TakeE.there | apply TakeE.app)) ?_ | exact Sub.nil _ | apply Sub.drop | apply Sub.dropE))⟩
              · refine sr_x rfl (wtd_none rfl) rfl (Rd.x (x_move rfl)) ?_
                refine sr_skip rfl (wtd_no rfl rfl rfl rfl) rfl ?_
                refine sr_skip rfl (wtd_no rfl rfl rfl rfl) rfl ?_
                refine sr_skip rfl (wtd_no rfl rfl rfl rfl) rfl ?_
                refine sr_x rfl (wtd_none rfl) rfl (Rd.x (x_pick_f rfl rfl rfl)) ?_
                refine sr_nil ?_
                refine aw_keep (keep_cons (t := 0) rfl (keep_cons (t := 1) rfl (keep_cons (t := 3) rfl (keep_cons (t := 4) rfl (keep_cons (t := 18) rfl (keep_cons (t := 20) rfl (keep_cons (t := 24) rfl (keep_cons (t := 199) rfl keep_nil)))))))) ?_
                refine aw_false rfl ?_
                refine aw_skip ?_
                show ∃ s', _ ∧ _ ∧ _
                first | exact ⟨W8, ⟨hmg8.2.1.1.trans hl1, hmg8⟩, (by repeat (first | exact keep_nil | refine keep_cons rfl ?_)), (by repeat (first | exact Sub.refl _ | refine Sub.take (by repeat (first | exact Take.here | apply Take.there | apply Take.app)) ?_ | refine Sub.takeE (by repeat (first | exact TakeE.here | apply TakeE.there | apply TakeE.app)) ?_ | exact Sub.nil _ | apply Sub.drop | apply Sub.dropE))⟩ | exact ⟨W1, ⟨hl1, Mg.triv (by omega) hp4.1 hp4.2.1⟩, (by repeat (first | exact keep_nil | refine keep_cons rfl ?_)), (by repeat (first | exact Sub.refl _ | refine Sub.take (by repeat (first | exact Take.here | apply Take.there | apply Take.app)) ?_ | refine Sub.takeE (by repeat (first | exact TakeE.here | apply TakeE.there | apply TakeE.app)) ?_ | exact Sub.nil _ | apply Sub.drop | apply Sub.dropE))⟩
            · intro W2 hW2
              obtain ⟨hl2, hmg2⟩ := hW2
              refine aw_seq_region ?_
              refine sr_x rfl (wtd_none rfl) rfl (Rd.x (x_move rfl)) ?_
              refine sr_x rfl (wtd_none rfl) rfl (Rd.x (x_move rfl)) ?_
              refine sr_cmp rfl (wtd_none rfl) rfl (Rd.x (x_lt rfl rfl)) (fun h24 => ?_) (fun h24 => ?_)
              · refine sr_x rfl (wtd_none rfl) rfl (Rd.x (x_move rfl)) ?_
                refine sr_x rfl (wtd_yes rfl rfl rfl) rfl (Rd.x (x_move rfl)) ?_
                refine sr_x rfl (wtd_yes rfl rfl rfl) rfl (Rd.x (x_move rfl)) ?_
                refine sr_cmp rfl (wtd_yes rfl rfl rfl) rfl (Rd.x (x_lt rfl rfl)) (fun h25 => ?_) (fun h25 => ?_)
                · refine sr_x rfl (wtd_none rfl) rfl (Rd.x (x_pick_t rfl rfl rfl)) ?_
                  refine sr_nil ?_
                  refine aw_keep (keep_cons (t := 0) rfl (keep_cons (t := 3) rfl (keep_cons (t := 4) rfl (keep_cons (t := 18) rfl (keep_cons (t := 24) rfl (keep_cons (t := 213) rfl keep_nil)))))) ?_
                  refine aw_true rfl ?_
                  refine aw_region ?_
                  refine sr_x rfl (wtd_none rfl) rfl (Rd.x (x_move rfl)) ?_
                  refine sr_x rfl (wtd_none rfl) rfl (Rd.x (x_move rfl)) ?_
                  refine sr_x rfl (wtd_none rfl) rfl (Rd.x (x_move rfl)) ?_
                  refine sr_x rfl (wtd_none rfl) rfl (Rd.x (x_move rfl)) ?_
                  refine sr_x rfl (wtd_none rfl) rfl (Rd.x (x_move rfl)) ?_
                  refine sr_d rfl (wtd_none rfl) rfl (opS_call rfl rfl rfl rfl cl82 (AC.sub (by repeat (first | exact Sub.refl _ | refine Sub.take (by repeat (first | exact Take.here | apply Take.there | apply Take.app)) ?_ | refine Sub.takeE (by repeat (first | exact TakeE.here | apply TakeE.there | apply TakeE.app)) ?_ | exact Sub.nil _ | apply Sub.drop | apply Sub.dropE)) (ih W2 d (d + m - i) e (by omega) (by omega) (by omega) (by omega) (by omega) ((hp4.2.2.1.same fun k q1 q2 => hmg2.2.1.2.1 k (by omega))) ((hp4.2.2.2.1.same fun k q1 q2 => hmg2.2.1.2.1 k (by omega)))))) ?_
                  rintro _ _ ⟨W3, hmg3, rfl, rfl⟩
                  refine sr_nil ?_
                  show ∃ v H2, ResV _ _ _ _ _ _ v ∧ Sub H2 _ ∧ _
                  first | (obtain rfl : i = j := (by omega); obtain rfl : m = a + 1 := (by omega); obtain rfl : i = k + 1 := (by omega); exact ⟨_, _, resV rfl .nil, Sub.refl _, cur, Mg.one_up hsw (by omega) (by omega) (by omega) hB (fun h q1 q2 => Classical.not_not.1 (hb4 h q1 q2)) hb5 hmv, rfl, rfl⟩) | (obtain rfl : i = j := (by omega); obtain rfl : e = m + 1 := (by omega); obtain rfl : k = i := (by omega); exact ⟨_, _, resV rfl .nil, Sub.refl _, cur, Mg.one_down hsw (by omega) (by omega) (by omega) hA hb4 hb5 hmv, rfl, rfl⟩) | exact ⟨_, _, resV rfl .nil, Sub.refl _, W3, merge_end (by omega) hst1 hin1 hp4 hmg2 hmg3, rfl, rfl⟩ | exact ⟨_, _, resV rfl .nil, Sub.refl _, W2, merge_end (by omega) hst1 hin1 hp4 hmg2 (Mg.triv (s := d + m - i) (by omega) (hp4.2.2.1.same fun k q1 q2 => hmg2.2.1.2.1 k (by omega)) (hp4.2.2.2.1.same fun k q1 q2 => hmg2.2.1.2.1 k (by omega))), rfl, rfl⟩
                · refine sr_x rfl (wtd_none rfl) rfl (Rd.x (x_pick_t rfl rfl rfl)) ?_
                  refine sr_nil ?_
                  refine aw_keep (keep_cons (t := 0) rfl (keep_cons (t := 3) rfl (keep_cons (t := 4) rfl (keep_cons (t := 18) rfl (keep_cons (t := 24) rfl (keep_cons (t := 213) rfl keep_nil)))))) ?_
                  refine aw_false rfl ?_
                  refine aw_skip ?_
                  show ∃ v H2, ResV _ _ _ _ _ _ v ∧ Sub H2 _ ∧ _
                  first | (obtain rfl : i = j := (by omega); obtain rfl : m = a + 1 := (by omega); obtain rfl : i = k + 1 := (by omega); exact ⟨_, _, resV rfl .nil, Sub.refl _, cur, Mg.one_up hsw (by omega) (by omega) (by omega) hB (fun h q1 q2 => Classical.not_not.1 (hb4 h q1 q2)) hb5 hmv, rfl, rfl⟩) | (obtain rfl : i = j := (by omega); obtain rfl : e = m + 1 := (by omega); obtain rfl : k = i := (by omega); exact ⟨_, _, resV rfl .nil, Sub.refl _, cur, Mg.one_down hsw (by omega) (by omega) (by omega) hA hb4 hb5 hmv, rfl, rfl⟩) | exact ⟨_, _, resV rfl .nil, Sub.refl _, W3, merge_end (by omega) hst1 hin1 hp4 hmg2 hmg3, rfl, rfl⟩ | exact ⟨_, _, resV rfl .nil, Sub.refl _, W2, merge_end (by omega) hst1 hin1 hp4 hmg2 (Mg.triv (s := d + m - i) (by omega) (hp4.2.2.1.same fun k q1 q2 => hmg2.2.1.2.1 k (by omega)) (hp4.2.2.2.1.same fun k q1 q2 => hmg2.2.1.2.1 k (by omega))), rfl, rfl⟩
              · refine sr_x rfl (wtd_none rfl) rfl (Rd.x (x_move rfl)) ?_
                refine sr_skip rfl (wtd_no rfl rfl rfl rfl) rfl ?_
                refine sr_skip rfl (wtd_no rfl rfl rfl rfl) rfl ?_
                refine sr_skip rfl (wtd_no rfl rfl rfl rfl) rfl ?_
                refine sr_x rfl (wtd_none rfl) rfl (Rd.x (x_pick_f rfl rfl rfl)) ?_
                refine sr_nil ?_
                refine aw_keep (keep_cons (t := 0) rfl (keep_cons (t := 3) rfl (keep_cons (t := 4) rfl (keep_cons (t := 18) rfl (keep_cons (t := 24) rfl (keep_cons (t := 213) rfl keep_nil)))))) ?_
                refine aw_false rfl ?_
                refine aw_skip ?_
                show ∃ v H2, ResV _ _ _ _ _ _ v ∧ Sub H2 _ ∧ _
                first | (obtain rfl : i = j := (by omega); obtain rfl : m = a + 1 := (by omega); obtain rfl : i = k + 1 := (by omega); exact ⟨_, _, resV rfl .nil, Sub.refl _, cur, Mg.one_up hsw (by omega) (by omega) (by omega) hB (fun h q1 q2 => Classical.not_not.1 (hb4 h q1 q2)) hb5 hmv, rfl, rfl⟩) | (obtain rfl : i = j := (by omega); obtain rfl : e = m + 1 := (by omega); obtain rfl : k = i := (by omega); exact ⟨_, _, resV rfl .nil, Sub.refl _, cur, Mg.one_down hsw (by omega) (by omega) (by omega) hA hb4 hb5 hmv, rfl, rfl⟩) | exact ⟨_, _, resV rfl .nil, Sub.refl _, W3, merge_end (by omega) hst1 hin1 hp4 hmg2 hmg3, rfl, rfl⟩ | exact ⟨_, _, resV rfl .nil, Sub.refl _, W2, merge_end (by omega) hst1 hin1 hp4 hmg2 (Mg.triv (s := d + m - i) (by omega) (hp4.2.2.1.same fun k q1 q2 => hmg2.2.1.2.1 k (by omega)) (hp4.2.2.2.1.same fun k q1 q2 => hmg2.2.1.2.1 k (by omega))), rfl, rfl⟩
theorem asSm_s (b cap n : Nat) (post : List Value) (G : SHeap) (hn : n ≤ 100000) (hcap : n ≤ cap) (hcb : cap ≤ 9223372036854775807) (c : WA → WA → Int) (hcmp : ∀ x y V, Sub G V → AC Try.prog W0 70 [WA.v x, WA.v y, .pointer (some ⟨q1, 0, none⟩), .pointer (some ⟨q2, 0, none⟩)] V (fun v H' => v = .int .i64 (c x y) ∧ H' = V)) (hsw : Swo c) : ∀ (k : Nat) (W : List WA) (a m e : Nat), W.length = n → e - a ≤ k → a < m → m < e → e ≤ n → SrtI c W a m → SrtI c W m e → AC Try.prog W0 82 [.slice (some ⟨b, 0, none⟩) n cap, .int .i64 (a : Nat), .int .i64 (m : Nat), .int .i64 (e : Nat), .func (.func 70) #[] #[.pointer (some ⟨q1, 0, none⟩), .pointer (some ⟨q2, 0, none⟩)]] ((b, .cells ((W).flatMap WA.cells ++ post).toArray 77 (0, 0)) :: G) (fun v H' => ∃ W', Mg c W a e W' ∧ v = .tuple #[] ∧ H' = (b, .cells ((W').flatMap WA.cells ++ post).toArray 77 (0, 0)) :: G) := by
  intro k
  induction k with
  | zero => intro W a m e hl hk h1 h2; omega
  | succ k ih =>
    intro W a m e hl hk h1 h2 h3 hA hB
    exact asSmW_s b cap n W post G hl hn hcap hcb a m e h1 h2 h3 c hcmp hsw hA hB fun W1 a1 m1 e1 q1 q2 q3 q4 q5 q6 q7 => ih W1 a1 m1 e1 q1 (by omega) q3 q4 q5 q6 q7
set_option maxRecDepth 100000 in
set_option maxHeartbeats 4000000 in
theorem asStb_s (b cap n : Nat) (W : List WA) (post : List Value) (G : SHeap) (hl : W.length = n) (hn : n ≤ 100000) (hcap : n ≤ cap) (hcb : cap ≤ 9223372036854775807) (c : WA → WA → Int) (hcmp : ∀ x y V, Sub G V → AC Try.prog W0 70 [WA.v x, WA.v y, .pointer (some ⟨q1, 0, none⟩), .pointer (some ⟨q2, 0, none⟩)] V (fun v H' => v = .int .i64 (c x y) ∧ H' = V)) (hsw : Swo c) : AC Try.prog W0 76 [.slice (some ⟨b, 0, none⟩) n cap, .int .i64 n, .func (.func 70) #[] #[.pointer (some ⟨q1, 0, none⟩), .pointer (some ⟨q2, 0, none⟩)]] ((b, .cells ((W).flatMap WA.cells ++ post).toArray 77 (0, 0)) :: G) (fun v H' => ∃ W', (St c W W' ∧ SrtI c W' 0 n) ∧ v = .tuple #[] ∧ H' = (b, .cells ((W').flatMap WA.cells ++ post).toArray 77 (0, 0)) :: G) := by
  refine ac_of Try.func76 rfl rfl rfl ?_
  refine aw_seq_region ?_
  refine sr_x rfl (wtd_none rfl) rfl (Rd.x (x_assign rfl)) ?_
  refine sr_nil ?_
  refine aw_keep (keep_cons (t := 0) rfl (keep_cons (t := 1) rfl (keep_cons (t := 2) rfl (keep_cons (t := 6) rfl keep_nil)))) ?_
  refine aw_seq_region ?_
  refine sr_x rfl (wtd_none rfl) rfl (Rd.x (x_move rfl)) ?_
  refine sr_x rfl (wtd_none rfl) rfl (Rd.x (x_assign rfl)) ?_
  refine sr_x rfl (wtd_none rfl) rfl (Rd.x (x_assign rfl)) ?_
  refine sr_nil ?_
  refine aw_keep (keep_cons (t := 0) rfl (keep_cons (t := 1) rfl (keep_cons (t := 2) rfl (keep_cons (t := 6) rfl (keep_cons (t := 7) rfl (keep_cons (t := 8) rfl keep_nil)))))) ?_
  refine aw_seq ?_
  refine aw_block ?_
  refine aw_loop (ι := SortG WA) (fun s => s.k ≤ n ∧ s.W.length = n ∧ St c W s.W ∧ Dn c s.W 20 s.k) (fun s => [(0, .slice (some ⟨b, 0, none⟩) n cap), (1, .int .i64 n), (2, .func (.func 70) #[] #[.pointer (some ⟨q1, 0, none⟩), .pointer (some ⟨q2, 0, none⟩)]), (6, .int .i64 20), (7, .int .i64 s.k), (8, .int .i64 ((s.k + 20 : Nat) : Int))]) (fun s => (b, .cells ((s.W).flatMap WA.cells ++ post).toArray 77 (0, 0)) :: G) (fun s => n - s.k) ⟨0, W⟩ (⟨Nat.zero_le _, hl, St.refl _, Dn.zero⟩) (by repeat (first | exact keep_nil | refine keep_cons rfl ?_)) (by repeat (first | exact Sub.refl _ | refine Sub.take (by repeat (first | exact Take.here | apply Take.there | apply Take.app)) ?_ | refine Sub.takeE (by repeat (first | exact TakeE.here | apply TakeE.there | apply TakeE.app)) ?_ | exact Sub.nil _ | apply Sub.drop | apply Sub.dropE)) ?_
  intro s hs9
  obtain ⟨a, cur⟩ := s
  dsimp only at hs9 ⊢
  obtain ⟨ha, hcl, hst, hdn⟩ := hs9
  refine aw_seq ?_
  refine aw_seq_region ?_
  refine sr_x rfl (wtd_none rfl) rfl (Rd.x (x_move rfl)) ?_
  refine sr_x rfl (wtd_none rfl) rfl (Rd.x (x_move rfl)) ?_
  refine sr_cmp rfl (wtd_none rfl) rfl (Rd.x (x_le rfl rfl)) (fun h1 => ?_) (fun h1 => ?_)
  · refine sr_nil ?_
    refine aw_keep (keep_cons (t := 0) rfl (keep_cons (t := 1) rfl (keep_cons (t := 2) rfl (keep_cons (t := 6) rfl (keep_cons (t := 7) rfl (keep_cons (t := 8) rfl (keep_cons (t := 11) rfl (keep_cons (t := 12) rfl (keep_cons (t := 13) rfl keep_nil))))))))) ?_
    refine aw_true rfl ?_
    refine aw_skip ?_
    show AW _ _ _ _ _ _ _
    refine aw_block ?_
    refine aw_seq_region ?_
    refine sr_x rfl (wtd_none rfl) rfl (Rd.x (x_move rfl)) ?_
    refine sr_x rfl (wtd_none rfl) rfl (Rd.x (x_move rfl)) ?_
    refine sr_x rfl (wtd_none rfl) rfl (Rd.x (x_move rfl)) ?_
    refine sr_x rfl (wtd_none rfl) rfl (Rd.x (x_move rfl)) ?_
    refine sr_d rfl (wtd_none rfl) rfl (opS_call rfl rfl rfl rfl cl81 (AC.sub (by repeat (first | exact Sub.refl _ | refine Sub.take (by repeat (first | exact Take.here | apply Take.there | apply Take.app)) ?_ | refine Sub.takeE (by repeat (first | exact TakeE.here | apply TakeE.there | apply TakeE.app)) ?_ | exact Sub.nil _ | apply Sub.drop | apply Sub.dropE)) (asIns_s b cap n cur post G (by omega) hn hcap hcb a (a + 20) (by omega) (by omega) c hcmp hsw))) ?_
    rintro _ _ ⟨W9, hm9, rfl, rfl⟩
    refine sr_nil ?_
    refine aw_keep (keep_cons (t := 0) rfl (keep_cons (t := 1) rfl (keep_cons (t := 2) rfl (keep_cons (t := 6) rfl (keep_cons (t := 7) rfl (keep_cons (t := 8) rfl (keep_cons (t := 11) rfl (keep_cons (t := 12) rfl (keep_cons (t := 13) rfl (keep_cons (t := 14) rfl (keep_cons (t := 15) rfl (keep_cons (t := 16) rfl (keep_cons (t := 17) rfl keep_nil))))))))))))) ?_
    refine aw_seq_region ?_
    refine sr_x rfl (wtd_none rfl) rfl (Rd.x (x_move rfl)) ?_
    refine sr_x rfl (wtd_none rfl) rfl (Rd.x (x_assign rfl)) ?_
    refine sr_nil ?_
    refine aw_keep (keep_cons (t := 0) rfl (keep_cons (t := 1) rfl (keep_cons (t := 2) rfl (keep_cons (t := 6) rfl (keep_cons (t := 7) rfl (keep_cons (t := 8) rfl (keep_cons (t := 11) rfl (keep_cons (t := 12) rfl (keep_cons (t := 13) rfl (keep_cons (t := 14) rfl (keep_cons (t := 15) rfl (keep_cons (t := 16) rfl (keep_cons (t := 17) rfl (keep_cons (t := 19) rfl keep_nil)))))))))))))) ?_
    refine aw_region ?_
    refine sr_x rfl (wtd_none rfl) rfl (Rd.x (x_move rfl)) ?_
    refine sr_x rfl (wtd_none rfl) rfl (Rd.x (x_move rfl)) ?_
    refine sr_x rfl (wtd_none rfl) rfl (Rd.x (x_cast (u := .int .i64 ((a + 20 + 20 : Nat) : Int)) (x_add' rfl rfl (i64w (by omega) (by omega))) (by congr 1))) ?_
    refine sr_x rfl (wtd_none rfl) rfl (Rd.x (x_assign rfl)) ?_
    refine sr_nil ?_
    show ∃ s', _ ∧ _ ∧ _ ∧ _
    exact ⟨⟨a + 20, W9⟩, ⟨by dsimp only; omega, hm9.2.1.1.trans hcl, hst.trans hm9.1, hdn.step hm9.2.1 hm9.2.2⟩, by dsimp only; omega, (by repeat (first | exact keep_nil | refine keep_cons rfl ?_)), (by repeat (first | exact Sub.refl _ | refine Sub.take (by repeat (first | exact Take.here | apply Take.there | apply Take.app)) ?_ | refine Sub.takeE (by repeat (first | exact TakeE.here | apply TakeE.there | apply TakeE.app)) ?_ | exact Sub.nil _ | apply Sub.drop | apply Sub.dropE))⟩
  · refine sr_nil ?_
    refine aw_keep (keep_cons (t := 0) rfl (keep_cons (t := 1) rfl (keep_cons (t := 2) rfl (keep_cons (t := 6) rfl (keep_cons (t := 7) rfl (keep_cons (t := 8) rfl (keep_cons (t := 11) rfl (keep_cons (t := 12) rfl (keep_cons (t := 13) rfl keep_nil))))))))) ?_
    refine aw_false rfl ?_
    refine aw_exit ?_
    show AW _ _ _ _ _ _ _
    refine aw_seq_region ?_
    refine sr_x rfl (wtd_none rfl) rfl (Rd.x (x_move rfl)) ?_
    refine sr_x rfl (wtd_none rfl) rfl (Rd.x (x_move rfl)) ?_
    refine sr_x rfl (wtd_none rfl) rfl (Rd.x (x_move rfl)) ?_
    refine sr_x rfl (wtd_none rfl) rfl (Rd.x (x_move rfl)) ?_
    refine sr_d rfl (wtd_none rfl) rfl (opS_call rfl rfl rfl rfl cl81 (AC.sub (by repeat (first | exact Sub.refl _ | refine Sub.take (by repeat (first | exact Take.here | apply Take.there | apply Take.app)) ?_ | refine Sub.takeE (by repeat (first | exact TakeE.here | apply TakeE.there | apply TakeE.app)) ?_ | exact Sub.nil _ | apply Sub.drop | apply Sub.dropE)) (asIns_s b cap n cur post G (by omega) hn hcap hcb a n (by omega) (by omega) c hcmp hsw))) ?_
    rintro _ _ ⟨W9, hm9, rfl, rfl⟩
    refine sr_nil ?_
    refine aw_keep (keep_cons (t := 0) rfl (keep_cons (t := 1) rfl (keep_cons (t := 2) rfl (keep_cons (t := 6) rfl (keep_cons (t := 7) rfl (keep_cons (t := 8) rfl keep_nil)))))) ?_
    refine aw_block ?_
    refine aw_loop (ι := SortG WA) (fun s => 0 < s.k ∧ s.k ≤ 300000 ∧ s.W.length = n ∧ St c W s.W ∧ Ch c s.W s.k 0 n) (fun s => [(0, .slice (some ⟨b, 0, none⟩) n cap), (1, .int .i64 n), (2, .func (.func 70) #[] #[.pointer (some ⟨q1, 0, none⟩), .pointer (some ⟨q2, 0, none⟩)]), (6, .int .i64 s.k)]) (fun s => (b, .cells ((s.W).flatMap WA.cells ++ post).toArray 77 (0, 0)) :: G) (fun s => n - s.k) ⟨20, W9⟩ (⟨by dsimp only; omega, by dsimp only; omega, hm9.2.1.1.trans hcl, hst.trans hm9.1, hdn.done hm9.2.1 (by omega) hm9.2.2⟩) (by repeat (first | exact keep_nil | refine keep_cons rfl ?_)) (by repeat (first | exact Sub.refl _ | refine Sub.take (by repeat (first | exact Take.here | apply Take.there | apply Take.app)) ?_ | refine Sub.takeE (by repeat (first | exact TakeE.here | apply TakeE.there | apply TakeE.app)) ?_ | exact Sub.nil _ | apply Sub.drop | apply Sub.dropE)) ?_
    intro s hs8
    obtain ⟨bs, cur1⟩ := s
    dsimp only at hs8 ⊢
    obtain ⟨hbs, hbs2, hcl1, hst1, hch1⟩ := hs8
    refine aw_seq ?_
    refine aw_seq_region ?_
    refine sr_x rfl (wtd_none rfl) rfl (Rd.x (x_move rfl)) ?_
    refine sr_x rfl (wtd_none rfl) rfl (Rd.x (x_move rfl)) ?_
    refine sr_cmp rfl (wtd_none rfl) rfl (Rd.x (x_lt rfl rfl)) (fun h2 => ?_) (fun h2 => ?_)
    · refine sr_nil ?_
      refine aw_keep (keep_cons (t := 0) rfl (keep_cons (t := 1) rfl (keep_cons (t := 2) rfl (keep_cons (t := 6) rfl (keep_cons (t := 28) rfl (keep_cons (t := 29) rfl (keep_cons (t := 30) rfl keep_nil))))))) ?_
      refine aw_true rfl ?_
      refine aw_skip ?_
      show AW _ _ _ _ _ _ _
      refine aw_block ?_
      refine aw_seq_region ?_
      refine sr_x rfl (wtd_none rfl) rfl (Rd.x (x_move rfl)) ?_
      refine sr_x rfl (wtd_none rfl) rfl (Rd.x (x_cast (u := .int .i64 ((2 * bs : Nat) : Int)) (x_mul' rfl rfl (i64w (by omega) (by omega))) (by congr 1))) ?_
      refine sr_x rfl (wtd_none rfl) rfl (Rd.x (x_assign rfl)) ?_
      refine sr_x rfl (wtd_none rfl) rfl (Rd.x (x_assign rfl)) ?_
      refine sr_nil ?_
      refine aw_keep (keep_cons (t := 0) rfl (keep_cons (t := 1) rfl (keep_cons (t := 2) rfl (keep_cons (t := 6) rfl (keep_cons (t := 7) rfl (keep_cons (t := 8) rfl (keep_cons (t := 28) rfl (keep_cons (t := 29) rfl (keep_cons (t := 30) rfl (keep_cons (t := 31) rfl (keep_cons (t := 32) rfl keep_nil))))))))))) ?_
      refine aw_seq ?_
      refine aw_block ?_
      refine aw_keep (keep_cons (t := 0) rfl (keep_cons (t := 1) rfl (keep_cons (t := 2) rfl (keep_cons (t := 6) rfl (keep_cons (t := 7) rfl (keep_cons (t := 8) (v := .int .i64 ((0 + 2 * bs : Nat) : Int)) (congrArg (fun x => some (Value.int .i64 x)) (by omega)) keep_nil)))))) ?_
      refine aw_loop (ι := SortG WA) (fun s => s.k ≤ n ∧ s.W.length = n ∧ St c W s.W ∧ Dn c s.W (2 * bs) s.k ∧ Ch c s.W bs s.k n) (fun s => [(0, .slice (some ⟨b, 0, none⟩) n cap), (1, .int .i64 n), (2, .func (.func 70) #[] #[.pointer (some ⟨q1, 0, none⟩), .pointer (some ⟨q2, 0, none⟩)]), (6, .int .i64 bs), (7, .int .i64 s.k), (8, .int .i64 ((s.k + 2 * bs : Nat) : Int))]) (fun s => (b, .cells ((s.W).flatMap WA.cells ++ post).toArray 77 (0, 0)) :: G) (fun s => n - s.k) ⟨0, cur1⟩ (⟨Nat.zero_le _, hcl1, hst1, Dn.zero, hch1⟩) (by repeat (first | exact keep_nil | refine keep_cons rfl ?_)) (by repeat (first | exact Sub.refl _ | refine Sub.take (by repeat (first | exact Take.here | apply Take.there | apply Take.app)) ?_ | refine Sub.takeE (by repeat (first | exact TakeE.here | apply TakeE.there | apply TakeE.app)) ?_ | exact Sub.nil _ | apply Sub.drop | apply Sub.dropE)) ?_
      intro s hs7
      obtain ⟨a3, cur3⟩ := s
      dsimp only at hs7 ⊢
      obtain ⟨ha3, hcl3, hst3, hdn3, hch3⟩ := hs7
      refine aw_seq ?_
      refine aw_seq_region ?_
      refine sr_x rfl (wtd_none rfl) rfl (Rd.x (x_move rfl)) ?_
      refine sr_x rfl (wtd_none rfl) rfl (Rd.x (x_move rfl)) ?_
      refine sr_cmp rfl (wtd_none rfl) rfl (Rd.x (x_le rfl rfl)) (fun h3 => ?_) (fun h3 => ?_)
      · refine sr_nil ?_
        refine aw_keep (keep_cons (t := 0) rfl (keep_cons (t := 1) rfl (keep_cons (t := 2) rfl (keep_cons (t := 6) rfl (keep_cons (t := 7) rfl (keep_cons (t := 8) rfl (keep_cons (t := 33) rfl (keep_cons (t := 34) rfl (keep_cons (t := 35) rfl keep_nil))))))))) ?_
        refine aw_true rfl ?_
        refine aw_skip ?_
        show AW _ _ _ _ _ _ _
        refine aw_block ?_
        refine aw_seq_region ?_
        have htw := hch3.two hbs (by omega)
        refine sr_x rfl (wtd_none rfl) rfl (Rd.x (x_move rfl)) ?_
        refine sr_x rfl (wtd_none rfl) rfl (Rd.x (x_move rfl)) ?_
        refine sr_x rfl (wtd_none rfl) rfl (Rd.x (x_move rfl)) ?_
        refine sr_x rfl (wtd_none rfl) rfl (Rd.x (x_move rfl)) ?_
        refine sr_x rfl (wtd_none rfl) rfl (Rd.x (x_cast (u := .int .i64 ((a3 + bs : Nat) : Int)) (x_add' rfl rfl (i64w (by omega) (by omega))) (by congr 1))) ?_
        refine sr_x rfl (wtd_none rfl) rfl (Rd.x (x_move rfl)) ?_
        refine sr_x rfl (wtd_none rfl) rfl (Rd.x (x_move rfl)) ?_
        refine sr_d rfl (wtd_none rfl) rfl (opS_call rfl rfl rfl rfl cl82 (AC.sub (by repeat (first | exact Sub.refl _ | refine Sub.take (by repeat (first | exact Take.here | apply Take.there | apply Take.app)) ?_ | refine Sub.takeE (by repeat (first | exact TakeE.here | apply TakeE.there | apply TakeE.app)) ?_ | exact Sub.nil _ | apply Sub.drop | apply Sub.dropE)) (asSm_s b cap n post G hn hcap hcb c hcmp hsw _ cur3 a3 (a3 + bs) (a3 + 2 * bs) (by omega) (Nat.le_refl _) (by omega) (by omega) (by omega) (htw.1) (htw.2.1)))) ?_
        rintro _ _ ⟨W9, hm9, rfl, rfl⟩
        refine sr_nil ?_
        refine aw_keep (keep_cons (t := 0) rfl (keep_cons (t := 1) rfl (keep_cons (t := 2) rfl (keep_cons (t := 6) rfl (keep_cons (t := 7) rfl (keep_cons (t := 8) rfl (keep_cons (t := 33) rfl (keep_cons (t := 34) rfl (keep_cons (t := 35) rfl (keep_cons (t := 36) rfl (keep_cons (t := 37) rfl (keep_cons (t := 38) rfl (keep_cons (t := 39) rfl (keep_cons (t := 40) rfl (keep_cons (t := 41) rfl (keep_cons (t := 42) rfl keep_nil)))))))))))))))) ?_
        refine aw_seq_region ?_
        refine sr_x rfl (wtd_none rfl) rfl (Rd.x (x_move rfl)) ?_
        refine sr_x rfl (wtd_none rfl) rfl (Rd.x (x_assign rfl)) ?_
        refine sr_nil ?_
        refine aw_keep (keep_cons (t := 0) rfl (keep_cons (t := 1) rfl (keep_cons (t := 2) rfl (keep_cons (t := 6) rfl (keep_cons (t := 7) rfl (keep_cons (t := 8) rfl (keep_cons (t := 33) rfl (keep_cons (t := 34) rfl (keep_cons (t := 35) rfl (keep_cons (t := 36) rfl (keep_cons (t := 37) rfl (keep_cons (t := 38) rfl (keep_cons (t := 39) rfl (keep_cons (t := 40) rfl (keep_cons (t := 41) rfl (keep_cons (t := 42) rfl (keep_cons (t := 44) rfl keep_nil))))))))))))))))) ?_
        refine aw_region ?_
        refine sr_x rfl (wtd_none rfl) rfl (Rd.x (x_move rfl)) ?_
        refine sr_x rfl (wtd_none rfl) rfl (Rd.x (x_move rfl)) ?_
        refine sr_x rfl (wtd_none rfl) rfl (Rd.x (x_cast (u := .int .i64 ((2 * bs : Nat) : Int)) (x_mul' rfl rfl (i64w (by omega) (by omega))) (by congr 1))) ?_
        refine sr_x rfl (wtd_none rfl) rfl (Rd.x (x_cast (u := .int .i64 ((a3 + 2 * bs + 2 * bs : Nat) : Int)) (x_add' rfl rfl (i64w (by omega) (by omega))) (by congr 1))) ?_
        refine sr_x rfl (wtd_none rfl) rfl (Rd.x (x_assign rfl)) ?_
        refine sr_nil ?_
        show ∃ s', _ ∧ _ ∧ _ ∧ _
        exact ⟨⟨a3 + 2 * bs, W9⟩, ⟨by dsimp only; omega, hm9.2.1.1.trans hcl3, hst3.trans hm9.1, hdn3.step hm9.2.1 hm9.2.2, htw.2.2.same fun k q => hm9.2.1.2.1 k (by omega)⟩, by dsimp only; omega, (by repeat (first | exact keep_nil | refine keep_cons rfl ?_)), (by repeat (first | exact Sub.refl _ | refine Sub.take (by repeat (first | exact Take.here | apply Take.there | apply Take.app)) ?_ | refine Sub.takeE (by repeat (first | exact TakeE.here | apply TakeE.there | apply TakeE.app)) ?_ | exact Sub.nil _ | apply Sub.drop | apply Sub.dropE))⟩
      · refine sr_nil ?_
        refine aw_keep (keep_cons (t := 0) rfl (keep_cons (t := 1) rfl (keep_cons (t := 2) rfl (keep_cons (t := 6) rfl (keep_cons (t := 7) rfl (keep_cons (t := 8) rfl (keep_cons (t := 33) rfl (keep_cons (t := 34) rfl (keep_cons (t := 35) rfl keep_nil))))))))) ?_
        refine aw_false rfl ?_
        refine aw_exit ?_
        show AW _ _ _ _ _ _ _
        refine aw_seq ?_
        refine aw_seq_region ?_
        refine sr_x rfl (wtd_none rfl) rfl (Rd.x (x_move rfl)) ?_
        refine sr_x rfl (wtd_none rfl) rfl (Rd.x (x_move rfl)) ?_
        refine sr_x rfl (wtd_none rfl) rfl (Rd.x (x_cast (u := .int .i64 ((a3 + bs : Nat) : Int)) (x_add' rfl rfl (i64w (by omega) (by omega))) (by congr 1))) ?_
        refine sr_x rfl (wtd_none rfl) rfl (Rd.x (x_assign rfl)) ?_
        refine sr_nil ?_
        refine aw_keep (keep_cons (t := 0) rfl (keep_cons (t := 1) rfl (keep_cons (t := 2) rfl (keep_cons (t := 6) rfl (keep_cons (t := 7) rfl (keep_cons (t := 8) rfl (keep_cons (t := 9) rfl (keep_cons (t := 33) rfl (keep_cons (t := 34) rfl (keep_cons (t := 35) rfl (keep_cons (t := 49) rfl (keep_cons (t := 50) rfl (keep_cons (t := 51) rfl keep_nil))))))))))))) ?_
        refine aw_seq_region ?_
        refine sr_x rfl (wtd_none rfl) rfl (Rd.x (x_move rfl)) ?_
        refine sr_x rfl (wtd_none rfl) rfl (Rd.x (x_move rfl)) ?_
        refine sr_cmp rfl (wtd_none rfl) rfl (Rd.x (x_lt rfl rfl)) (fun h4 => ?_) (fun h4 => ?_)
        · refine sr_nil ?_
          refine aw_keep (keep_cons (t := 0) rfl (keep_cons (t := 1) rfl (keep_cons (t := 2) rfl (keep_cons (t := 6) rfl (keep_cons (t := 7) rfl (keep_cons (t := 8) rfl (keep_cons (t := 9) rfl (keep_cons (t := 33) rfl (keep_cons (t := 34) rfl (keep_cons (t := 35) rfl (keep_cons (t := 49) rfl (keep_cons (t := 50) rfl (keep_cons (t := 51) rfl (keep_cons (t := 52) rfl (keep_cons (t := 53) rfl (keep_cons (t := 54) rfl keep_nil)))))))))))))))) ?_
          refine aw_true rfl ?_
          refine aw_region ?_
          have hrs := hch3.rest (by omega) (by omega)
          refine sr_x rfl (wtd_none rfl) rfl (Rd.x (x_move rfl)) ?_
          refine sr_x rfl (wtd_none rfl) rfl (Rd.x (x_move rfl)) ?_
          refine sr_x rfl (wtd_none rfl) rfl (Rd.x (x_move rfl)) ?_
          refine sr_x rfl (wtd_none rfl) rfl (Rd.x (x_move rfl)) ?_
          refine sr_x rfl (wtd_none rfl) rfl (Rd.x (x_move rfl)) ?_
          refine sr_d rfl (wtd_none rfl) rfl (opS_call rfl rfl rfl rfl cl82 (AC.sub (by repeat (first | exact Sub.refl _ | refine Sub.take (by repeat (first | exact Take.here | apply Take.there | apply Take.app)) ?_ | refine Sub.takeE (by repeat (first | exact TakeE.here | apply TakeE.there | apply TakeE.app)) ?_ | exact Sub.nil _ | apply Sub.drop | apply Sub.dropE)) (asSm_s b cap n post G hn hcap hcb c hcmp hsw _ cur3 a3 (a3 + bs) n (by omega) (Nat.le_refl _) (by omega) (by omega) (by omega) (hrs.1) (hrs.2)))) ?_
          rintro _ _ ⟨W9, hm9, rfl, rfl⟩
          refine sr_nil ?_
          show AW _ _ _ _ _ _ _
          refine aw_region ?_
          refine sr_x rfl (wtd_none rfl) rfl (Rd.x (x_move rfl)) ?_
          refine sr_x rfl (wtd_none rfl) rfl (Rd.x (x_cast (u := .int .i64 ((bs * 2 : Nat) : Int)) (x_mul' rfl rfl (i64w (by omega) (by omega))) (by congr 1))) ?_
          refine sr_x rfl (wtd_none rfl) rfl (Rd.x (x_assign rfl)) ?_
          refine sr_nil ?_
          show ∃ s', _ ∧ _ ∧ _ ∧ _
          first | exact ⟨⟨bs * 2, W9⟩, ⟨by dsimp only; omega, by dsimp only; omega, hm9.2.1.1.trans hcl3, hst3.trans hm9.1, (by dsimp only; rw [Nat.mul_comm]; exact hdn3.done hm9.2.1 (by omega) hm9.2.2)⟩, by dsimp only; omega, (by repeat (first | exact keep_nil | refine keep_cons rfl ?_)), (by repeat (first | exact Sub.refl _ | refine Sub.take (by repeat (first | exact Take.here | apply Take.there | apply Take.app)) ?_ | refine Sub.takeE (by repeat (first | exact TakeE.here | apply TakeE.there | apply TakeE.app)) ?_ | exact Sub.nil _ | apply Sub.drop | apply Sub.dropE))⟩ | exact ⟨⟨bs * 2, cur3⟩, ⟨by dsimp only; omega, by dsimp only; omega, hcl3, hst3, (by dsimp only; rw [Nat.mul_comm]; exact hdn3.done (InR.refl _ _ _) (by omega) (hch3.all (by omega)))⟩, by dsimp only; omega, (by repeat (first | exact keep_nil | refine keep_cons rfl ?_)), (by repeat (first | exact Sub.refl _ | refine Sub.take (by repeat (first | exact Take.here | apply Take.there | apply Take.app)) ?_ | refine Sub.takeE (by repeat (first | exact TakeE.here | apply TakeE.there | apply TakeE.app)) ?_ | exact Sub.nil _ | apply Sub.drop | apply Sub.dropE))⟩
        · refine sr_nil ?_
          refine aw_keep (keep_cons (t := 0) rfl (keep_cons (t := 1) rfl (keep_cons (t := 2) rfl (keep_cons (t := 6) rfl (keep_cons (t := 7) rfl (keep_cons (t := 8) rfl (keep_cons (t := 9) rfl (keep_cons (t := 33) rfl (keep_cons (t := 34) rfl (keep_cons (t := 35) rfl (keep_cons (t := 49) rfl (keep_cons (t := 50) rfl (keep_cons (t := 51) rfl (keep_cons (t := 52) rfl (keep_cons (t := 53) rfl (keep_cons (t := 54) rfl keep_nil)))))))))))))))) ?_
          refine aw_false rfl ?_
          refine aw_skip ?_
          show AW _ _ _ _ _ _ _
          refine aw_region ?_
          refine sr_x rfl (wtd_none rfl) rfl (Rd.x (x_move rfl)) ?_
          refine sr_x rfl (wtd_none rfl) rfl (Rd.x (x_cast (u := .int .i64 ((bs * 2 : Nat) : Int)) (x_mul' rfl rfl (i64w (by omega) (by omega))) (by congr 1))) ?_
          refine sr_x rfl (wtd_none rfl) rfl (Rd.x (x_assign rfl)) ?_
          refine sr_nil ?_
          show ∃ s', _ ∧ _ ∧ _ ∧ _
          first | exact ⟨⟨bs * 2, W9⟩, ⟨by dsimp only; omega, by dsimp only; omega, hm9.2.1.1.trans hcl3, hst3.trans hm9.1, (by dsimp only; rw [Nat.mul_comm]; exact hdn3.done hm9.2.1 (by omega) hm9.2.2)⟩, by dsimp only; omega, (by repeat (first | exact keep_nil | refine keep_cons rfl ?_)), (by repeat (first | exact Sub.refl _ | refine Sub.take (by repeat (first | exact Take.here | apply Take.there | apply Take.app)) ?_ | refine Sub.takeE (by repeat (first | exact TakeE.here | apply TakeE.there | apply TakeE.app)) ?_ | exact Sub.nil _ | apply Sub.drop | apply Sub.dropE))⟩ | exact ⟨⟨bs * 2, cur3⟩, ⟨by dsimp only; omega, by dsimp only; omega, hcl3, hst3, (by dsimp only; rw [Nat.mul_comm]; exact hdn3.done (InR.refl _ _ _) (by omega) (hch3.all (by omega)))⟩, by dsimp only; omega, (by repeat (first | exact keep_nil | refine keep_cons rfl ?_)), (by repeat (first | exact Sub.refl _ | refine Sub.take (by repeat (first | exact Take.here | apply Take.there | apply Take.app)) ?_ | refine Sub.takeE (by repeat (first | exact TakeE.here | apply TakeE.there | apply TakeE.app)) ?_ | exact Sub.nil _ | apply Sub.drop | apply Sub.dropE))⟩
    · refine sr_nil ?_
      refine aw_keep (keep_cons (t := 0) rfl (keep_cons (t := 1) rfl (keep_cons (t := 2) rfl (keep_cons (t := 6) rfl (keep_cons (t := 28) rfl (keep_cons (t := 29) rfl (keep_cons (t := 30) rfl keep_nil))))))) ?_
      refine aw_false rfl ?_
      refine aw_exit ?_
      show ∃ v H2, ResV _ _ _ _ _ _ v ∧ Sub H2 _ ∧ _
      exact ⟨_, _, resV rfl .nil, Sub.refl _, cur1, ⟨hst1, hch1.all (by omega)⟩, rfl, rfl⟩
set_option maxRecDepth 100000 in
set_option maxHeartbeats 400000 in
theorem asSrt_s (b cap n : Nat) (W : List WA) (post : List Value) (G : SHeap) (hl : W.length = n) (hn : n ≤ 100000) (hcap : n ≤ cap) (hcb : cap ≤ 9223372036854775807) (c : WA → WA → Int) (hcmp : ∀ x y V, Sub G V → AC Try.prog W0 70 [WA.v x, WA.v y, .pointer (some ⟨q1, 0, none⟩), .pointer (some ⟨q2, 0, none⟩)] V (fun v H' => v = .int .i64 (c x y) ∧ H' = V)) (hsw : Swo c) : AC Try.prog W0 69 [.slice (some ⟨b, 0, none⟩) n cap, .func (.func 70) #[] #[.pointer (some ⟨q1, 0, none⟩), .pointer (some ⟨q2, 0, none⟩)]] ((b, .cells ((W).flatMap WA.cells ++ post).toArray 77 (0, 0)) :: G) (fun v H' => ∃ W', (St c W W' ∧ SrtI c W' 0 n) ∧ v = .tuple #[] ∧ H' = (b, .cells ((W').flatMap WA.cells ++ post).toArray 77 (0, 0)) :: G) := by
  refine ac_of Try.func69 rfl rfl rfl ?_
  refine aw_region ?_
  refine sr_x rfl (wtd_none rfl) rfl (Rd.x (x_move rfl)) ?_
  refine sr_x rfl (wtd_none rfl) rfl (Rd.x (x_move rfl)) ?_
  refine sr_x rfl (wtd_none rfl) rfl (Rd.x (x_lenSlice Try.underlying72 rfl)) ?_
  refine sr_x rfl (wtd_none rfl) rfl (Rd.x (x_move rfl)) ?_
  refine sr_d rfl (wtd_none rfl) rfl (opS_call rfl rfl rfl rfl cl76 (AC.sub (by repeat (first | exact Sub.refl _ | refine Sub.take (by repeat (first | exact Take.here | apply Take.there | apply Take.app)) ?_ | refine Sub.takeE (by repeat (first | exact TakeE.here | apply TakeE.there | apply TakeE.app)) ?_ | exact Sub.nil _ | apply Sub.drop | apply Sub.dropE)) (asStb_s b cap n W post G hl hn hcap hcb c hcmp hsw))) ?_
  rintro _ _ ⟨W9, hm9, rfl, rfl⟩
  refine sr_nil ?_
  show ∃ v H2, ResV _ _ _ _ _ _ v ∧ Sub H2 _ ∧ _
  exact ⟨_, _, resV rfl .nil, Sub.refl _, W9, hm9, rfl, rfl⟩
set_option maxRecDepth 100000 in
set_option maxHeartbeats 400000 in
theorem asInsN_s (G : SHeap) : AC Try.prog W0 81 [.slice none 0 0, .int .i64 ((0 : Nat) : Int), .int .i64 ((0 : Nat) : Int), .func (.func 70) #[] #[.pointer (some ⟨q1, 0, none⟩), .pointer (some ⟨q2, 0, none⟩)]] G (fun v H' => v = .tuple #[] ∧ H' = G) := by
  refine ac_of Try.func81 rfl rfl rfl ?_
  refine aw_seq_region ?_
  refine sr_x rfl (wtd_none rfl) rfl (Rd.x (x_move rfl)) ?_
  refine sr_x rfl (wtd_none rfl) rfl (Rd.x (x_add' rfl rfl (i64w (by omega) (by omega)))) ?_
  refine sr_x rfl (wtd_none rfl) rfl (Rd.x (x_assign rfl)) ?_
  refine sr_nil ?_
  refine aw_keep (keep_cons (t := 0) rfl (keep_cons (t := 1) rfl (keep_cons (t := 2) rfl (keep_cons (t := 3) rfl (keep_cons (t := 8) rfl keep_nil))))) ?_
  refine aw_block ?_
  refine aw_loop (ι := Unit) (fun _ => True) (fun _ => [(2, .int .i64 ((0 : Nat) : Int)), (8, .int .i64 1)]) (fun _ => G) (fun _ => 0) () (trivial) (by repeat (first | exact keep_nil | refine keep_cons rfl ?_)) (by repeat (first | exact Sub.refl _ | apply Sub.drop)) ?_
  intro _ _
  refine aw_seq ?_
  refine aw_seq_region ?_
  refine sr_x rfl (wtd_none rfl) rfl (Rd.x (x_move rfl)) ?_
  refine sr_x rfl (wtd_none rfl) rfl (Rd.x (x_move rfl)) ?_
  refine sr_cmp rfl (wtd_none rfl) rfl (Rd.x (x_lt rfl rfl)) (fun h1 => absurd h1 (by first | omega | decide)) (fun h1 => ?_)
  refine sr_nil ?_
  refine aw_keep (keep_cons (t := 2) rfl (keep_cons (t := 8) rfl (keep_cons (t := 12) rfl (keep_cons (t := 13) rfl (keep_cons (t := 14) rfl keep_nil))))) ?_
  refine aw_false rfl ?_
  refine aw_exit ?_
  show ∃ v H2, ResV _ _ _ _ _ _ v ∧ Sub H2 _ ∧ _
  exact ⟨_, G, resV rfl .nil, (by repeat (first | exact Sub.refl _ | apply Sub.drop)), ⟨rfl, rfl⟩⟩
set_option maxRecDepth 100000 in
set_option maxHeartbeats 400000 in
theorem asStbN_s (G : SHeap) : AC Try.prog W0 76 [.slice none 0 0, .int .i64 ((0 : Nat) : Int), .func (.func 70) #[] #[.pointer (some ⟨q1, 0, none⟩), .pointer (some ⟨q2, 0, none⟩)]] G (fun v H' => v = .tuple #[] ∧ H' = G) := by
  refine ac_of Try.func76 rfl rfl rfl ?_
  refine aw_seq_region ?_
  refine sr_x rfl (wtd_none rfl) rfl (Rd.x (x_assign rfl)) ?_
  refine sr_nil ?_
  refine aw_keep (keep_cons (t := 0) rfl (keep_cons (t := 1) rfl (keep_cons (t := 2) rfl (keep_cons (t := 6) rfl keep_nil)))) ?_
  refine aw_seq_region ?_
  refine sr_x rfl (wtd_none rfl) rfl (Rd.x (x_move rfl)) ?_
  refine sr_x rfl (wtd_none rfl) rfl (Rd.x (x_assign rfl)) ?_
  refine sr_x rfl (wtd_none rfl) rfl (Rd.x (x_assign rfl)) ?_
  refine sr_nil ?_
  refine aw_keep (keep_cons (t := 0) rfl (keep_cons (t := 1) rfl (keep_cons (t := 2) rfl (keep_cons (t := 6) rfl (keep_cons (t := 7) rfl (keep_cons (t := 8) rfl keep_nil)))))) ?_
  refine aw_seq ?_
  refine aw_block ?_
  refine aw_loop (ι := Unit) (fun _ => True) (fun _ => [(0, .slice none 0 0), (1, .int .i64 ((0 : Nat) : Int)), (2, .func (.func 70) #[] #[.pointer (some ⟨q1, 0, none⟩), .pointer (some ⟨q2, 0, none⟩)]), (6, .int .i64 20), (7, .int .i64 ((0 : Nat) : Int)), (8, .int .i64 20)]) (fun _ => G) (fun _ => 0) () (trivial) (by repeat (first | exact keep_nil | refine keep_cons rfl ?_)) (by repeat (first | exact Sub.refl _ | apply Sub.drop)) ?_
  intro _ _
  refine aw_seq ?_
  refine aw_seq_region ?_
  refine sr_x rfl (wtd_none rfl) rfl (Rd.x (x_move rfl)) ?_
  refine sr_x rfl (wtd_none rfl) rfl (Rd.x (x_move rfl)) ?_
  refine sr_cmp rfl (wtd_none rfl) rfl (Rd.x (x_le rfl rfl)) (fun h1 => absurd h1 (by first | omega | decide)) (fun h1 => ?_)
  refine sr_nil ?_
  refine aw_keep (keep_cons (t := 0) rfl (keep_cons (t := 1) rfl (keep_cons (t := 2) rfl (keep_cons (t := 6) rfl (keep_cons (t := 7) rfl (keep_cons (t := 8) rfl (keep_cons (t := 11) rfl (keep_cons (t := 12) rfl (keep_cons (t := 13) rfl keep_nil))))))))) ?_
  refine aw_false rfl ?_
  refine aw_exit ?_
  show AW _ _ _ _ _ _ _
  refine aw_seq_region ?_
  refine sr_x rfl (wtd_none rfl) rfl (Rd.x (x_move rfl)) ?_
  refine sr_x rfl (wtd_none rfl) rfl (Rd.x (x_move rfl)) ?_
  refine sr_x rfl (wtd_none rfl) rfl (Rd.x (x_move rfl)) ?_
  refine sr_x rfl (wtd_none rfl) rfl (Rd.x (x_move rfl)) ?_
  refine sr_d rfl (wtd_none rfl) rfl (opS_call rfl rfl rfl rfl cl81 (asInsN_s _)) ?_
  rintro _ G ⟨rfl, rfl⟩
  refine sr_nil ?_
  refine aw_keep (keep_cons (t := 0) rfl (keep_cons (t := 1) rfl (keep_cons (t := 2) rfl (keep_cons (t := 6) rfl (keep_cons (t := 7) rfl (keep_cons (t := 8) rfl keep_nil)))))) ?_
  refine aw_block ?_
  refine aw_loop (ι := Unit) (fun _ => True) (fun _ => [(1, .int .i64 ((0 : Nat) : Int)), (6, .int .i64 20)]) (fun _ => G) (fun _ => 0) () (trivial) (by repeat (first | exact keep_nil | refine keep_cons rfl ?_)) (by repeat (first | exact Sub.refl _ | apply Sub.drop)) ?_
  intro _ _
  refine aw_seq ?_
  refine aw_seq_region ?_
  refine sr_x rfl (wtd_none rfl) rfl (Rd.x (x_move rfl)) ?_
  refine sr_x rfl (wtd_none rfl) rfl (Rd.x (x_move rfl)) ?_
  refine sr_cmp rfl (wtd_none rfl) rfl (Rd.x (x_lt rfl rfl)) (fun h2 => absurd h2 (by first | omega | decide)) (fun h2 => ?_)
  refine sr_nil ?_
  refine aw_keep (keep_cons (t := 1) rfl (keep_cons (t := 6) rfl (keep_cons (t := 28) rfl (keep_cons (t := 29) rfl (keep_cons (t := 30) rfl keep_nil))))) ?_
  refine aw_false rfl ?_
  refine aw_exit ?_
  show ∃ v H2, ResV _ _ _ _ _ _ v ∧ Sub H2 _ ∧ _
  exact ⟨_, G, resV rfl .nil, (by repeat (first | exact Sub.refl _ | apply Sub.drop)), ⟨rfl, rfl⟩⟩
set_option maxRecDepth 100000 in
set_option maxHeartbeats 400000 in
theorem asSrtN_s (G : SHeap) : AC Try.prog W0 69 [.slice none 0 0, .func (.func 70) #[] #[.pointer (some ⟨q1, 0, none⟩), .pointer (some ⟨q2, 0, none⟩)]] G (fun v H' => v = .tuple #[] ∧ H' = G) := by
  refine ac_of Try.func69 rfl rfl rfl ?_
  refine aw_region ?_
  refine sr_x rfl (wtd_none rfl) rfl (Rd.x (x_move rfl)) ?_
  refine sr_x rfl (wtd_none rfl) rfl (Rd.x (x_move rfl)) ?_
  refine sr_x rfl (wtd_none rfl) rfl (Rd.x (x_lenSlice Try.underlying72 rfl)) ?_
  refine sr_x rfl (wtd_none rfl) rfl (Rd.x (x_move rfl)) ?_
  refine sr_d rfl (wtd_none rfl) rfl (opS_call rfl rfl rfl rfl cl76 (asStbN_s _)) ?_
  rintro _ G ⟨rfl, rfl⟩
  refine sr_nil ?_
  show ∃ v H2, ResV _ _ _ _ _ _ v ∧ Sub H2 _ ∧ _
  exact ⟨_, G, resV rfl .nil, (by repeat (first | exact Sub.refl _ | apply Sub.drop)), ⟨rfl, rfl⟩⟩
theorem asV_s (a : Option Addr) (cap n : Nat) (W : List WA) (E G : SHeap) (V : OwnVec 11 77 (.slice a n cap) n (W.flatMap WA.cells) E) (hl : W.length = n) (hn : n ≤ 100000) (c : WA → WA → Int) (hcmp : ∀ x y V, Sub G V → AC Try.prog W0 70 [WA.v x, WA.v y, .pointer (some ⟨q1, 0, none⟩), .pointer (some ⟨q2, 0, none⟩)] V (fun v H' => v = .int .i64 (c x y) ∧ H' = V)) (hsw : Swo c) :
    AC Try.prog W0 69 [.slice a n cap, .func (.func 70) #[] #[.pointer (some ⟨q1, 0, none⟩), .pointer (some ⟨q2, 0, none⟩)]] (E ++ G) (fun v H' => ∃ W' E', St c W W' ∧ SrtI c W' 0 n ∧ v = .tuple #[] ∧ OwnVec 11 77 (.slice a n cap) n (W'.flatMap WA.cells) E' ∧ H' = E' ++ G) := by
  generalize hL : W.flatMap WA.cells = L at V
  cases V with
  | nil =>
    obtain rfl : W = [] := List.length_eq_zero_iff.1 hl
    exact (asSrtN_s G).mono fun v H' ⟨h1, h2⟩ => ⟨[], [], St.refl _, fun i j _ _ h => by omega, h1, .nil, h2⟩
  | @mk r n cap L post h1 h2 h3 h4 =>
    subst hL
    exact (asSrt_s r cap n W post G hl hn h3 h4 c hcmp hsw).mono fun v H' ⟨W', ⟨q1, q2⟩, q3, q4⟩ => ⟨W', _, q1, q2, q3, .mk (by rw [flat_len (n := 11) (enc := WA.cells) (fun _ => rfl), q1.1.length_eq, hl]) h2 h3 h4, q4⟩
end
end
end Go.Proofs.Ytlhmoojffopheaa
