/- Which jobs may be asked for besides any, and who has more than they may; no condition. -/
import Derived.Test.YteilocpjikmmdaaQga
import Derived.Test.YteilocpjikmmdaaRows
import Derived.Test.YteilocpjikmmdaaCut
namespace Go.Proofs.Yteilocpjikmmdaa
open Go.Proofs.Yteilocpjikmmdaa.Sym
open Go.RowKit (Below)
set_option linter.unusedVariables false
set_option linter.unusedSimpArgs false
structure OvG where
  k : Nat
  acc : List Int
  sl : Value
  E : SHeap
theorem ov_nd {acc : List Int} {x : Int} (h : acc.Nodup) (hn : x ∉ acc) : (acc ++ [x]).Nodup := by
  rw [List.nodup_append]
  exact ⟨h, by simp, fun y hy z hz q => hn (by rw [List.mem_singleton] at hz; subst hz; subst q; exact hy)⟩
section
variable {jobs : List Job} {acc : List Int} {k : Nat} {j : Job} {p : Int → Prop}
theorem ov_add (h : ∀ t, t ∈ acc ↔ (∃ j ∈ jobs.take k, j.user = t) ∧ p t) (hj : jobs[k]? = some j) (hp : p j.user) : ∀ t, t ∈ acc ++ [j.user] ↔ (∃ j ∈ jobs.take (k + 1), j.user = t) ∧ p t := fun t => by
  rw [takeS hj, List.mem_append, List.mem_singleton, h]
  constructor
  · rintro (⟨⟨x, h1, h2⟩, h3⟩ | rfl)
    · exact ⟨⟨x, List.mem_append_left _ h1, h2⟩, h3⟩
    · exact ⟨⟨j, by simp, rfl⟩, hp⟩
  · rintro ⟨⟨x, h1, h2⟩, h3⟩
    rw [List.mem_append, List.mem_singleton] at h1
    rcases h1 with h1 | rfl
    · exact .inl ⟨⟨x, h1, h2⟩, h3⟩
    · exact .inr h2.symm
theorem ov_in (h : ∀ t, t ∈ acc ↔ (∃ j ∈ jobs.take k, j.user = t) ∧ p t) (hj : jobs[k]? = some j) (hi : j.user ∈ acc) : ∀ t, t ∈ acc ↔ (∃ j ∈ jobs.take (k + 1), j.user = t) ∧ p t := fun t => by
  rw [takeS hj]
  constructor
  · intro ht
    obtain ⟨⟨x, h1, h2⟩, h3⟩ := (h t).1 ht
    exact ⟨⟨x, List.mem_append_left _ h1, h2⟩, h3⟩
  · rintro ⟨⟨x, h1, h2⟩, h3⟩
    rw [List.mem_append, List.mem_singleton] at h1
    rcases h1 with h1 | rfl
    · exact (h t).2 ⟨⟨x, h1, h2⟩, h3⟩
    · exact h2 ▸ hi
theorem ov_ok {p : Int → Prop} (h : ∀ t, t ∈ acc ↔ (∃ j ∈ jobs.take k, j.user = t) ∧ ¬ p t) (hj : jobs[k]? = some j) (hp : p j.user) : ∀ t, t ∈ acc ↔ (∃ j ∈ jobs.take (k + 1), j.user = t) ∧ ¬ p t := fun t => by
  rw [takeS hj]
  constructor
  · intro ht
    obtain ⟨⟨x, h1, h2⟩, h3⟩ := (h t).1 ht
    exact ⟨⟨x, List.mem_append_left _ h1, h2⟩, h3⟩
  · rintro ⟨⟨x, h1, h2⟩, h3⟩
    rw [List.mem_append, List.mem_singleton] at h1
    rcases h1 with h1 | rfl
    · exact (h t).2 ⟨⟨x, h1, h2⟩, h3⟩
    · exact absurd (h2 ▸ hp) h3
def anyU (xs : List Job) (k : Nat) (u : Int) : Bool := (xs.take k).any fun j => decide (j.user = u)
theorem anyU_s {u : Int} (hj : jobs[k]? = some j) : anyU jobs (k + 1) u = (anyU jobs k u || decide (j.user = u)) := by unfold anyU; rw [takeS hj, List.any_append]; simp
theorem anyU_y {u : Int} (h : true = anyU jobs k u) (hk : jobs.length ≤ k) : ∃ j ∈ jobs, j.user = u := by
  unfold anyU at h
  rw [List.take_of_length_le hk] at h
  obtain ⟨x, h1, h2⟩ := List.any_eq_true.1 h.symm
  exact ⟨x, h1, of_decide_eq_true h2⟩
theorem anyU_n {u : Int} (h : false = anyU jobs k u) (hk : jobs.length ≤ k) : ¬ ∃ j ∈ jobs, j.user = u := fun ⟨x, h1, h2⟩ => by
  unfold anyU at h
  rw [List.take_of_length_le hk] at h
  have := List.any_eq_false.1 h.symm x h1
  exact this (decide_eq_true h2)
end
theorem cells194 : Try.prog.cellsOf 194 = 5 := by kernel_rfl
theorem cl88 : Callable Try.prog 88 := ⟨Try.f88, Try.func88, by kernel_rfl, by kernel_rfl⟩
theorem cl90 : Callable Try.prog 90 := ⟨Try.f90, Try.func90, by kernel_rfl, by kernel_rfl⟩
theorem cl93 : Callable Try.prog 93 := ⟨Try.f93, Try.func93, by kernel_rfl, by kernel_rfl⟩
section
variable {W0 : World}
set_option maxRecDepth 100000 in
theorem read_QOp {H : Type} {enc : TypeId × Value → H} {w : World} {base : Nat} {spare : Nat → Bool} {held : Bool} {fuel : Nat} {cs : List Value} {x : DataW H × List MemPlace} (h : DataW.trod enc Try.prog w base spare held fuel 194 cs = some x) : ∃ j : QOp, cs = j.cells ∧ j.Wf := by
  obtain ⟨hlen, n, hf⟩ := read_struct Try.underlying194 h
  rw [cells194] at hlen
  obtain ⟨a0, e0, l0, u0⟩ := read_int Try.underlying3 cells3 (hf 0 _ rfl)
  obtain ⟨a1, e1, l1, u1⟩ := read_int Try.underlying3 cells3 (hf 1 _ rfl)
  obtain ⟨y2, k2⟩ : ∃ y, DataW.trod enc Try.prog w base spare held n 24 ((cs.drop 2).take (Try.prog.cellsOf 24)) = some y := hf 2 _ rfl
  obtain ⟨a2, e2, w2⟩ := read_QLimit k2
  rw [cells24] at e2
  refine ⟨⟨a0, a1, a2⟩, ?_, ⟨⟨l0, u0⟩, ⟨l1, u1⟩, w2⟩⟩
  apply List.ext_getElem?
  intro i
  match i with
  | 0 => exact e0
  | 1 => exact e1
  | 2 => exact get_nest e2 0 (by decide)
  | 3 => exact get_nest e2 1 (by decide)
  | 4 => exact get_nest e2 2 (by decide)
  | i + 5 => rw [List.getElem?_eq_none (by omega), List.getElem?_eq_none (by simp)]
set_option maxRecDepth 100000 in
theorem open_QOp {H : Type} {enc : TypeId × Value → H} {w : World} {base b0 : Nat} {spare : Nat → Bool} {held : Bool} {v : Value} {d : DataW H} {p : List MemPlace} {r : Reach} (hv : Value.okWide Try.prog w r b0 194 v) (h : DataW.Trod enc Try.prog w base spare held 194 v d p) : ∃ j : QOp, v = j.v ∧ j.Wf := by
  obtain ⟨cs, rfl, _⟩ := Go.WideShapes.okWide_struct Try.underlying194 hv
  obtain ⟨fuel, hf⟩ := h
  obtain ⟨j, h1, h2⟩ := read_QOp hf
  refine ⟨j, ?_, h2⟩
  have : cs = j.cells.toArray := by apply Array.toList_inj.1; exact h1
  rw [this]
set_option maxRecDepth 100000 in
set_option maxHeartbeats 400000 in
theorem qcheck_s (g m : Nat) (l : QLimit) (H : SHeap) (hc : Cells W0 H g 0 (gateC l m)) (r : Request) (a : Option Addr) (cap : Nat) (jobs : List Job) (es : List MapEntry) (clk : Nat) (f : Nat → QLimit) (h : Nat → Bool) (hm : MapAt W0 H m es clk) (hG : GOk es clk f h) (hs : SlV W0 H 10 Job.cells a cap jobs) (hjl : jobs.length ≤ 1000) : AC Try.prog W0 92 [.pointer (some ⟨g, 0, none⟩), r.v, .slice a jobs.length cap] H (fun v H' => v = .int .i64 (checkE (limU l f h r.user) r jobs) ∧ H' = H) := by
  have hbd := useOf_bd r.user jobs
  refine ac_of Try.func92 rfl rfl rfl ?_
  refine aw_seq_region ?_
  refine sr_new rfl (wtd_none rfl) rfl (x_box rfl rfl) ?_
  intro r0_0 hr0_0 gr0_0
  refine sr_as ?_
  refine sr_nil ?_
  refine aw_kp [0, 2, 4, 6] ?_
  refine aw_seq ?_
  refine aw_block ?_
  refine aw_seq_region ?_
  refine sr_mv ?_
  refine sr_d rfl (wtd_none rfl) rfl (opS_call rfl rfl rfl rfl cl127 (gnone_s g m l _ (Cells.mono hc (by repeat (first | exact Sub.refl _ | apply Sub.drop))))) ?_
  rintro _ H ⟨rfl, rfl⟩
  refine sr_as ?_
  refine sr_nil ?_
  refine aw_kp [0, 2, 4, 6, 7] ?_
  refine aw_false rfl ?_
  refine aw_seq_region ?_
  refine sr_rd (x_fieldAddr fd36_0 rfl) ?_
  refine sr_rd (x_load ag3 rfl (cells_ext mauto Ext.auto)) ?_
  refine sr_c (x_ne rfl rfl) (fun h1 => ?_) (fun h1 => ?_)
  · refine sr_as ?_
    refine sr_nil ?_
    refine aw_kp [0, 2, 4, 6, 10] ?_
    refine aw_true rfl ?_
    refine aw_seq_region ?_
    refine sr_as ?_
    refine sr_nil ?_
    refine aw_kp [6] ?_
    refine aw_ret ?_
    show ∃ v H2, ResV _ _ _ _ _ _ v ∧ Sub H2 _ ∧ _
    exact ⟨_, H, resV rfl (.cons rfl .nil), (by repeat (first | exact Sub.refl _ | apply Sub.drop)), ⟨congrArg (Value.int .i64) (by unfold checkE; first | (rw [if_pos (by omega)]; done) | (rw [if_neg (by omega), if_neg (nd_t hb2)]; done) | (rw [if_neg (by omega), if_pos (nd_f hb2)]; done)), rfl⟩⟩
  · refine sr_as ?_
    refine sr_nil ?_
    refine aw_kp [0, 2, 4, 6, 10] ?_
    refine aw_false rfl ?_
    refine aw_seq_dr ⟨_, 16, 30, [[], [0], [], [0, 1, 2], [], [4], [], [6], [0, 1, 2, 3, 4, 5, 6, 7], [], [], [10], [0, 1, 2, 3, 4, 5, 6, 7, 8, 9, 10, 11], [0, 1, 2, 3, 4, 5, 6, 7, 8, 9, 10, 11, 12], [0, 1, 2, 3, 4, 5, 6, 7, 8, 9, 10, 11, 12, 13], [0, 1, 2, 3, 4, 5, 6, 7, 8, 9, 10, 11, 12, 13, 14]], [.light, .mem, .light, .call, .light, .mem, .light, .mem, .call, .light, .light, .mem, .call, .call, .light, .light]⟩ (by kernel_rfl) rfl rfl mix ?_
    refine dr_l (x_fieldAddr fd36_2 rfl) ?_
    refine dr_mem0 rfl rfl (wtd_none rfl) (x_load ag3 rfl (cells_ext mauto Ext.auto)) ?_
    refine dr_l (x_move rfl) ?_
    refine dr_callq0 rfl rfl (wtd_none rfl) (opS_F rfl rfl rfl rfl cl20 ((of20_s r.user a cap jobs _ (hs.mono (by repeat (first | exact Sub.refl _ | apply Sub.drop))) hjl))) (⟨_, rfl⟩) ?_
    rintro _ rfl
    refine dr_l (x_fieldAddr fd36_3 rfl) ?_
    refine dr_mem0 rfl rfl (wtd_none rfl) (x_load ag3 rfl (cells_ext mauto Ext.auto)) ?_
    refine dr_l (x_fieldAddr fd36_4 rfl) ?_
    refine dr_mem0 rfl rfl (wtd_none rfl) (x_load ag2 rfl (cells_ext mauto Ext.auto)) ?_
    refine dr_callq0 rfl rfl (wtd_none rfl) (opS_F rfl rfl rfl rfl cl24 ((with24_s (useOf r.user jobs) _ _ _ (by omega)))) (⟨_, rfl⟩) ?_
    rintro _ rfl
    refine dr_l (x_move rfl) ?_
    refine dr_l (x_fieldAddr fd36_2 rfl) ?_
    refine dr_mem0 rfl rfl (wtd_none rfl) (x_load ag3 rfl (cells_ext mauto Ext.auto)) ?_
    refine dr_callq0 rfl rfl (wtd_none rfl) (opS_F rfl rfl rfl rfl cl89 ((gofU_s g m l _ (Cells.mono hc (by repeat (first | exact Sub.refl _ | apply Sub.drop))) r.user es clk f h (hm.mono (by repeat (first | exact Sub.refl _ | apply Sub.drop))) hG))) (⟨_, rfl⟩) ?_
    rintro _ rfl
    refine dr_callq0 rfl rfl (wtd_none rfl) (opS_F rfl rfl rfl rfl cl26 ((within26_s _ _ _))) (⟨_, rfl⟩) ?_
    rintro _ rfl
    refine dr_l (x_not rfl) ?_
    refine dr_l (x_assign rfl) ?_
    refine dr_nil0 ?_
    refine aw_kp [6, 14] ?_
    refine aw_cond rfl (fun hb2 => ?_) (fun hb2 => ?_)
    · refine aw_seq_region ?_
      refine sr_as ?_
      refine sr_nil ?_
      refine aw_kp [6] ?_
      refine aw_ret ?_
      show ∃ v H2, ResV _ _ _ _ _ _ v ∧ Sub H2 _ ∧ _
      exact ⟨_, H, resV rfl (.cons rfl .nil), (by repeat (first | exact Sub.refl _ | apply Sub.drop)), ⟨congrArg (Value.int .i64) (by unfold checkE; first | (rw [if_pos (by omega)]; done) | (rw [if_neg (by omega), if_neg (nd_t hb2)]; done) | (rw [if_neg (by omega), if_pos (nd_f hb2)]; done)), rfl⟩⟩
    · refine aw_skip ?_
      show AW _ _ _ _ _ _ _
      refine aw_seq_region ?_
      refine sr_as ?_
      refine sr_nil ?_
      refine aw_kp [6] ?_
      refine aw_ret ?_
      show ∃ v H2, ResV _ _ _ _ _ _ v ∧ Sub H2 _ ∧ _
      exact ⟨_, H, resV rfl (.cons rfl .nil), (by repeat (first | exact Sub.refl _ | apply Sub.drop)), ⟨congrArg (Value.int .i64) (by unfold checkE; first | (rw [if_pos (by omega)]; done) | (rw [if_neg (by omega), if_neg (nd_t hb2)]; done) | (rw [if_neg (by omega), if_pos (nd_f hb2)]; done)), rfl⟩⟩
set_option maxRecDepth 100000 in
set_option maxHeartbeats 400000 in
theorem qindex_s (a : Option Addr) (cap : Nat) (xs : List Int) (x : Int) (H : SHeap) (hs : SlV W0 H 1 intC a cap xs) : AC Try.prog W0 141 [.slice a xs.length cap, .int .i64 x] H (fun v H' => ∃ i : Int, v = .int .i64 i ∧ (i ≥ 0 ↔ x ∈ xs) ∧ H' = H) := by
  have hle := hs.le
  have hcb := hs.capb
  refine ac_of Try.func141 rfl rfl rfl ?_
  refine aw_seq_region ?_
  refine sr_as ?_
  refine sr_nil ?_
  refine aw_kp [0, 1, 4] ?_
  refine aw_seq ?_
  refine aw_seq_region ?_
  refine sr_mv ?_
  refine sr_rd (x_lenSlice Try.underlying134 rfl) ?_
  refine sr_mv ?_
  refine sr_nil ?_
  refine aw_kp [0, 1, 4, 7, 8] ?_
  refine aw_block ?_
  refine aw_loop (ι := Nat) (fun k => k ≤ xs.length ∧ x ∉ xs.take k) (fun k => [(0, .slice a xs.length cap), (1, .int .i64 x), (4, .int .i64 0), (7, .int .i64 xs.length), (8, .int .i64 (k : Nat))]) (fun _ => H) (fun k => xs.length - k) 0 (⟨Nat.zero_le _, by simp⟩) KeepF.auto (by repeat (first | exact Sub.refl _ | apply Sub.drop)) ?_
  intro k hk9
  obtain ⟨hk, hn⟩ := hk9
  refine aw_seq_region ?_
  refine sr_c (x_lt rfl rfl) (fun h1 => ?_) (fun h1 => ?_)
  · refine sr_nil ?_
    refine aw_kp [0, 1, 4, 7, 8, 9] ?_
    refine aw_seq ?_
    refine aw_true rfl ?_
    refine aw_skip ?_
    show AW _ _ _ _ _ _ _
    refine aw_seq ?_
    refine aw_block ?_
    refine aw_seq_region ?_
    obtain ⟨y, hy⟩ := get_ex (show k < xs.length by omega)
    obtain ⟨by9, oy, hay, hcy⟩ := hs.at_ k _ hy
    refine sr_mv ?_
    refine sr_as ?_
    refine sr_nil ?_
    refine aw_kp [0, 1, 4, 5, 7, 8, 9, 10] ?_
    refine aw_seq_region ?_
    refine sr_mv ?_
    refine sr_mv ?_
    refine sr_mv ?_
    refine sr_rd (x_indexAddrN k Try.underlying134 sz3 rfl hay rfl (by omega) (by omega)) ?_
    refine sr_rd (x_load ag3 rfl (Cells.mono hcy (Sub.refl _))) ?_
    refine sr_c (x_eq rfl rfl) (fun h2 => ?_) (fun h2 => ?_)
    · refine sr_nil ?_
      refine aw_kp [0, 1, 4, 5, 7, 8, 9, 10, 11, 12, 13, 14, 15, 16] ?_
      refine aw_true rfl ?_
      refine aw_seq_region ?_
      refine sr_mv ?_
      refine sr_as ?_
      refine sr_nil ?_
      refine aw_kp [0, 1, 4, 5, 7, 8, 9, 10, 11, 12, 13, 14, 15, 16, 17] ?_
      refine aw_ret ?_
      show ∃ v H2, ResV _ _ _ _ _ _ v ∧ Sub H2 _ ∧ _
      first | exact ⟨_, H, resV rfl (.cons rfl .nil), (by repeat (first | exact Sub.refl _ | apply Sub.drop)), _, rfl, ⟨fun _ => (by have := List.mem_of_getElem? hy; simp_all), fun _ => by omega⟩, rfl⟩ | exact ⟨_, H, resV rfl (.cons rfl .nil), (by repeat (first | exact Sub.refl _ | apply Sub.drop)), _, rfl, ⟨fun q => absurd q (by decide), fun q => absurd q (by rw [List.take_of_length_le (by omega)] at hn; exact hn)⟩, rfl⟩
    · refine sr_nil ?_
      refine aw_kp [0, 1, 4, 5, 7, 8, 9, 10, 11, 12, 13, 14, 15, 16] ?_
      refine aw_false rfl ?_
      refine aw_skip ?_
      show AW _ _ _ _ _ _ _
      refine aw_region ?_
      refine sr_rd (x_add' rfl rfl (i64w (by omega) (by omega))) ?_
      refine sr_mv ?_
      refine sr_nil ?_
      show ∃ s', _ ∧ _ ∧ _ ∧ _
      exact ⟨k + 1, ⟨by omega, (by rw [takeS hy, List.mem_append, List.mem_singleton]; exact fun q => q.elim hn (by omega))⟩, by omega, KeepF.auto, (by repeat (first | exact Sub.refl _ | apply Sub.drop))⟩
  · refine sr_nil ?_
    refine aw_kp [0, 1, 4, 7, 8, 9] ?_
    refine aw_seq ?_
    refine aw_false rfl ?_
    refine aw_exit ?_
    show AW _ _ _ _ _ _ _
    refine aw_seq_region ?_
    refine sr_as ?_
    refine sr_nil ?_
    refine aw_kp [4] ?_
    refine aw_ret ?_
    show ∃ v H2, ResV _ _ _ _ _ _ v ∧ Sub H2 _ ∧ _
    first | exact ⟨_, H, resV rfl (.cons rfl .nil), (by repeat (first | exact Sub.refl _ | apply Sub.drop)), _, rfl, ⟨fun _ => (by have := List.mem_of_getElem? hy; simp_all), fun _ => by omega⟩, rfl⟩ | exact ⟨_, H, resV rfl (.cons rfl .nil), (by repeat (first | exact Sub.refl _ | apply Sub.drop)), _, rfl, ⟨fun q => absurd q (by decide), fun q => absurd q (by rw [List.take_of_length_le (by omega)] at hn; exact hn)⟩, rfl⟩
set_option maxRecDepth 100000 in
set_option maxHeartbeats 400000 in
theorem qcontains_s (a : Option Addr) (cap : Nat) (xs : List Int) (x : Int) (H : SHeap) (hs : SlV W0 H 1 intC a cap xs) : AC Try.prog W0 121 [.slice a xs.length cap, .int .i64 x] H (fun v H' => v = .bool (decide (x ∈ xs)) ∧ H' = H) := by
  refine ac_of Try.func121 rfl rfl rfl ?_
  refine aw_seq_region ?_
  refine sr_as ?_
  refine sr_nil ?_
  refine aw_kp [0, 1, 4] ?_
  refine aw_seq_region ?_
  refine sr_mv ?_
  refine sr_mv ?_
  refine sr_d rfl (wtd_none rfl) rfl (opS_call rfl rfl rfl rfl cl141 (qindex_s a cap xs x _ hs)) ?_
  rintro _ H ⟨i, rfl, hi, rfl⟩
  refine sr_rd (x_cast (u := .bool (decide (x ∈ xs))) (x_ge rfl rfl) (congrArg Value.bool (decide_eq_decide.2 hi))) ?_
  refine sr_as ?_
  refine sr_nil ?_
  refine aw_kp [4] ?_
  refine aw_ret ?_
  show ∃ v H2, ResV _ _ _ _ _ _ v ∧ Sub H2 _ ∧ _
  exact ⟨_, H, resV rfl (.cons rfl .nil), (by repeat (first | exact Sub.refl _ | apply Sub.drop)), ⟨rfl, rfl⟩⟩
set_option maxRecDepth 100000 in
set_option maxHeartbeats 2000000 in
theorem qover_s (g m : Nat) (l : QLimit) (es : List MapEntry) (clk : Nat) (f : Nat → QLimit) (h : Nat → Bool) (G : SHeap) (hG : GOk es clk f h) (a : Option Addr) (cap : Nat) (jobs : List Job) (hs : ∀ G, SlV W0 G 10 Job.cells a cap jobs) (hjl : jobs.length ≤ 40) : AC Try.prog W0 93 [.pointer (some ⟨g, 0, none⟩), .slice a jobs.length cap] (gate g l m :: gmap m (es) (clk) :: G) (fun v H' => ∃ (Z : List Int) (a : Option Addr) (cap : Nat) (E : SHeap), v = .slice a Z.length cap ∧ Z.Pairwise (· < ·) ∧ (∀ t, t ∈ Z ↔ (∃ j ∈ jobs, j.user = t) ∧ ¬ WithinP (useOf t jobs) (limU l f h t)) ∧ OwnVec 1 3 (.slice a Z.length cap) Z.length ((Z).flatMap intC) E ∧ H' = E ++ (gate g l m :: gmap m (es) (clk) :: G)) := by
  have hle := (hs []).le
  have hcb := (hs []).capb
  refine ac_of Try.func93 rfl rfl rfl ?_
  refine aw_seq_region ?_
  refine sr_as ?_
  refine sr_nil ?_
  refine aw_kp [0, 1, 4] ?_
  refine aw_seq ?_
  refine aw_seq_region ?_
  refine sr_mv ?_
  refine sr_d rfl (wtd_none rfl) rfl (opS_call rfl rfl rfl rfl cl127 (gnone_s g m l _ (cells_ext mauto Ext.auto))) ?_
  rintro _ _ ⟨rfl, rfl⟩
  refine sr_nil ?_
  refine aw_kp [0, 1, 4, 9] ?_
  refine aw_false rfl ?_
  refine aw_skip ?_
  show AW _ _ _ _ _ _ _
  refine aw_seq_region ?_
  refine sr_as ?_
  refine sr_nil ?_
  refine aw_kp [0, 1, 4, 5] ?_
  refine aw_seq ?_
  refine aw_seq_region ?_
  refine sr_mv ?_
  refine sr_rd (x_lenSlice Try.underlying22 rfl) ?_
  refine sr_mv ?_
  refine sr_nil ?_
  refine aw_kp [0, 1, 4, 5, 10, 11, 12] ?_
  refine aw_block ?_
  refine aw_loop (ι := OvG) (fun s => s.k ≤ jobs.length ∧ s.acc.length ≤ s.k ∧ s.acc.Nodup ∧ (∀ t, t ∈ s.acc ↔ (∃ j ∈ jobs.take s.k, j.user = t) ∧ ¬ WithinP (useOf t jobs) (limU l f h t)) ∧ OwnVec 1 3 s.sl s.acc.length ((s.acc).flatMap intC) s.E) (fun s => [(0, .pointer (some ⟨g, 0, none⟩)), (1, .slice a jobs.length cap), (4, .slice none 0 0), (5, s.sl), (10, .slice a jobs.length cap), (11, .int .i64 jobs.length), (12, .int .i64 (s.k : Nat))]) (fun s => s.E ++ (gate g l m :: gmap m (es) (clk) :: G)) (fun s => jobs.length - s.k) ⟨0, [], .slice none 0 0, []⟩ (⟨Nat.zero_le _, Nat.zero_le _, List.nodup_nil, by simp, .nil⟩) KeepF.auto Sub.autoP ?_
  intro s hs9
  obtain ⟨k, acc, sl, E⟩ := s
  dsimp only at hs9 ⊢
  obtain ⟨hk, hal, hnd, hmem, V⟩ := hs9
  obtain ⟨a1, c1, rfl⟩ := V.isSl
  have hsE := V.slv' (W0 := W0) (xs := acc) (fun _ => rfl) rfl (Sub.refl _)
  have hleE := hsE.le
  have hcbE := hsE.capb
  refine aw_seq_region ?_
  refine sr_c (x_lt rfl rfl) (fun h1 => ?_) (fun h1 => ?_)
  · refine sr_nil ?_
    refine aw_kp [0, 1, 4, 5, 10, 11, 12, 13] ?_
    refine aw_seq ?_
    refine aw_true rfl ?_
    refine aw_skip ?_
    show AW _ _ _ _ _ _ _
    refine aw_seq ?_
    refine aw_block ?_
    refine aw_seq_region ?_
    obtain ⟨j, hj⟩ := get_ex (show k < jobs.length by omega)
    obtain ⟨bj, oj, haj, hcj⟩ := (hs []).at_ k _ hj
    refine sr_rd (x_indexAddrN k Try.underlying22 sz91 rfl haj rfl (by omega) (by omega)) ?_
    refine sr_rd (x_loadN ag91 sz91 rfl (Cells.mono hcj (Sub.nil _)) rfl) ?_
    refine sr_new rfl (wtd_none rfl) rfl (x_alloc zr91 rfl) ?_
    intro r6_2 hr6_2 gr6_2
    refine sr_x0 rfl (wtd_none rfl) (x_store sz91 rfl rfl rfl rfl rfl Repl.auto Spl.auto) ?_
    refine sr_nil ?_
    refine aw_kp [0, 1, 4, 5, 7, 10, 11, 12, 13, 14, 15] ?_
    refine aw_seq_dr ⟨_, 17, 42, [[], [], [1], [0, 1, 2], [0, 1, 2, 3], [0, 1, 2, 3, 4], [0, 1, 2, 3, 4, 5], [0, 1, 2, 3, 4, 5, 6], [0, 1, 2, 3, 4, 5], [0, 1, 2, 3, 4, 5, 6, 7, 8], [0, 1, 2, 3, 4, 5], [0, 1, 2, 3, 4, 5], [0, 1, 2, 3, 4, 5, 11], [0, 1, 2, 3, 4, 5, 6, 7, 8, 9, 10, 11, 12], [0, 1, 2, 3, 4, 5, 6, 7, 8, 9, 10, 11, 12, 13], [0, 1, 2, 3, 4, 5, 6, 7, 8, 9, 10, 11, 12, 13, 14], [0, 1, 2, 3, 4, 5, 6, 7, 8, 9, 10, 11, 12, 13, 14, 15]], [.light, .light, .mem, .call, .light, .light, .light, .mem, .light, .call, .light, .light, .mem, .call, .call, .light, .light]⟩ (by kernel_rfl) rfl rfl mix ?_
    refine dr_l (x_move rfl) ?_
    refine dr_l (x_fieldAddr fd91_1 rfl) ?_
    refine dr_mem0 rfl rfl (wtd_none rfl) (x_load ag3 rfl (cells_ext mauto Ext.auto)) ?_
    refine dr_callq0 rfl rfl (wtd_none rfl) (opS_F rfl rfl rfl rfl cl121 ((qcontains_s a1 c1 acc j.user _ (hsE.mono Sub.autoE)))) (⟨_, rfl⟩) ?_
    rintro _ rfl
    generalize hd1 : decide (j.user ∈ acc) = d1
    cases d1
    · refine dr_l (x_not rfl) ?_
      refine dr_l (x_move rfl) ?_
      refine dr_y (x_fieldAddr fd91_1 rfl) ?_
      refine dr_mem0 rfl rfl (wtd_yes rfl rfl rfl) (x_load ag3 rfl (cells_ext mauto Ext.auto)) ?_
      refine dr_y (x_move rfl) ?_
      refine dr_callq0 rfl rfl (wtd_yes rfl rfl rfl) (opS_F rfl rfl rfl rfl cl20 ((of20_s j.user a cap jobs _ (hs _) (by omega)))) (⟨_, rfl⟩) ?_
      rintro _ rfl
      refine dr_y (x_move rfl) ?_
      refine dr_y (x_fieldAddr fd91_1 rfl) ?_
      refine dr_mem0 rfl rfl (wtd_yes rfl rfl rfl) (x_load ag3 rfl (cells_ext mauto Ext.auto)) ?_
      refine dr_callq0 rfl rfl (wtd_yes rfl rfl rfl) (opS_F rfl rfl rfl rfl cl89 ((gofU_s g m l _ (cells_ext mauto Ext.auto) j.user es clk f h (map_at mauto) hG))) (⟨_, rfl⟩) ?_
      rintro _ rfl
      refine dr_callq0 rfl rfl (wtd_yes rfl rfl rfl) (opS_F rfl rfl rfl rfl cl26 ((within26_s _ _ _))) (⟨_, rfl⟩) ?_
      rintro _ rfl
      generalize hd2 : decide (WithinP (useOf j.user jobs) (limU l f h j.user)) = d2
      cases d2
      · refine dr_y (x_not rfl) ?_
        refine dr_l (x_pick_t rfl rfl rfl) ?_
        refine dr_nil0 ?_
        refine aw_kp [0, 1, 4, 5, 7, 10, 11, 12, 13, 14, 15, 16, 17, 18, 19, 20, 21, 22, 23, 24, 25, 26, 27, 28, 29, 30, 31, 32] ?_
        refine aw_true rfl ?_
        refine aw_region ?_
        refine sr_mv ?_
        refine sr_rd (x_fieldAddr fd91_1 rfl) ?_
        refine sr_rd (x_load ag3 rfl (cells_ext mauto Ext.auto)) ?_
        refine sr_new rfl (wtd_none rfl) rfl (x_buildSlice Try.underlying134 sz3 zr3 rfl rfl rfl rfl Parts.auto Fill.auto) ?_
        intro r8_3 hr8_3 gr8_3
        refine sr_d rfl (wtd_none rfl) rfl (opS_append (G := (r6_2, .cells (Job.cells j).toArray 91 (0, 0)) :: gate g l m :: gmap m (es) (clk) :: G) (N := (intC j.user)) (m := 1) Try.underlying134 sz3 zr3 rfl by3 rfl rfl V Sub.autoP (.inr ⟨_, _, rfl, (cells_ext mauto Ext.auto)⟩) (rfl) rfl (by omega) (by omega)) ?_
        rintro v37 _ ⟨E37, hV37, rfl⟩
        obtain ⟨a37, cap37, rfl⟩ := hV37.isSl
        refine sr_as ?_
        refine sr_nil ?_
        show AW _ _ _ _ _ _ _
        refine aw_region ?_
        refine sr_rd (x_add' rfl rfl (i64w (by omega) (by omega))) ?_
        refine sr_mv ?_
        refine sr_nil ?_
        show ∃ s', _ ∧ _ ∧ _ ∧ _
        exact ⟨⟨k + 1, acc ++ [j.user], .slice a37 (acc.length + 1) cap37, E37⟩, ⟨by dsimp only; omega, by dsimp only; rw [List.length_append, List.length_singleton]; omega, ov_nd hnd (of_decide_eq_false hd1), ov_add hmem hj (of_decide_eq_false hd2), (by dsimp only; have h9 := hV37.snocS; rw [List.length_append] at h9 ⊢; exact h9)⟩, by dsimp only; omega, KeepF.auto, Sub.autoP⟩
      · refine dr_y (x_not rfl) ?_
        refine dr_l (x_pick_t rfl rfl rfl) ?_
        refine dr_nil0 ?_
        refine aw_kp [0, 1, 4, 5, 7, 10, 11, 12, 13, 14, 15, 16, 17, 18, 19, 20, 21, 22, 23, 24, 25, 26, 27, 28, 29, 30, 31, 32] ?_
        refine aw_false rfl ?_
        refine aw_skip ?_
        show AW _ _ _ _ _ _ _
        refine aw_region ?_
        refine sr_rd (x_add' rfl rfl (i64w (by omega) (by omega))) ?_
        refine sr_mv ?_
        refine sr_nil ?_
        show ∃ s', _ ∧ _ ∧ _ ∧ _
        exact ⟨⟨k + 1, acc, .slice a1 acc.length c1, E⟩, ⟨by dsimp only; omega, by dsimp only; omega, hnd, ov_ok hmem hj (of_decide_eq_true hd2), V⟩, by dsimp only; omega, KeepF.auto, Sub.autoP⟩
    · refine dr_l (x_not rfl) ?_
      refine dr_l (x_move rfl) ?_
      refine dr_sk ?_
      refine dr_sk ?_
      refine dr_sk ?_
      refine dr_sk ?_
      refine dr_sk ?_
      refine dr_sk ?_
      refine dr_sk ?_
      refine dr_sk ?_
      refine dr_sk ?_
      refine dr_sk ?_
      refine dr_l (x_pick_f rfl rfl rfl) ?_
      refine dr_nil0 ?_
      refine aw_kp [0, 1, 4, 5, 7, 10, 11, 12, 13, 14, 15, 16, 17, 18, 19, 20, 21, 22, 23, 24, 25, 26, 27, 28, 29, 30, 31, 32] ?_
      refine aw_false rfl ?_
      refine aw_skip ?_
      show AW _ _ _ _ _ _ _
      refine aw_region ?_
      refine sr_rd (x_add' rfl rfl (i64w (by omega) (by omega))) ?_
      refine sr_mv ?_
      refine sr_nil ?_
      show ∃ s', _ ∧ _ ∧ _ ∧ _
      exact ⟨⟨k + 1, acc, .slice a1 acc.length c1, E⟩, ⟨by dsimp only; omega, by dsimp only; omega, hnd, ov_in hmem hj (of_decide_eq_true hd1), V⟩, by dsimp only; omega, KeepF.auto, Sub.autoP⟩
  · refine sr_nil ?_
    refine aw_kp [0, 1, 4, 5, 10, 11, 12, 13] ?_
    refine aw_seq ?_
    refine aw_false rfl ?_
    refine aw_exit ?_
    show AW _ _ _ _ _ _ _
    refine aw_seq_region ?_
    rw [List.take_of_length_le (show jobs.length ≤ k by omega)] at hmem
    refine sr_mv ?_
    refine sr_d rfl (wtd_none rfl) rfl (opS_call rfl rfl rfl rfl cl128 (mV_s a1 c1 acc.length acc E (gate g l m :: gmap m (es) (clk) :: G) V rfl (by omega))) ?_
    rintro _ _ ⟨W9, E9, ⟨hp9, hs9⟩, rfl, V9, rfl⟩
    refine sr_nil ?_
    refine aw_kp [4, 5] ?_
    refine aw_seq_region ?_
    refine sr_mv ?_
    refine sr_as ?_
    refine sr_nil ?_
    refine aw_kp [4] ?_
    refine aw_ret ?_
    show ∃ v H2, ResV _ _ _ _ _ _ v ∧ Sub H2 _ ∧ _
    (have hl9 := hp9.length_eq; rw [← hl9] at V9 ⊢; exact ⟨_, E9 ++ (gate g l m :: gmap m (es) (clk) :: G), resV rfl (.cons rfl .nil), Sub.autoP, W9, a1, c1, E9, rfl, asc_of (sri_pw hs9 hl9) (hp9.nodup_iff.2 hnd), fun t => (hp9.mem_iff).trans (hmem t), V9, rfl⟩)
set_option maxRecDepth 100000 in
set_option maxHeartbeats 4000000 in
theorem quotaChecks_s (all : QLimit) (sa : Option Addr) (scap : Nat) (ops : List QOp) (hso : ∀ G, SlV W0 G 5 QOp.cells sa scap ops) (r : Request) (a : Option Addr) (cap : Nat) (jobs : List Job) (hs0 : ∀ G, SlV W0 G 10 Job.cells a cap jobs) : AC Try.prog W0 17 [all.v, .slice sa ops.length scap, r.v, .slice a jobs.length cap] [] (fun v _ => v = .bool true) := by
  have hle0 := (hs0 []).le
  have hcb0 := (hs0 []).capb
  refine ac_of Try.func17 rfl rfl rfl ?_
  refine aw_seq_region ?_
  refine sr_new rfl (wtd_none rfl) rfl (x_box rfl rfl) ?_
  intro r0_0 hr0_0 gr0_0
  refine sr_new rfl (wtd_none rfl) rfl (x_box rfl rfl) ?_
  intro r0_1 hr0_1 gr0_1
  refine sr_as ?_
  refine sr_nil ?_
  refine aw_kp [1, 3, 4, 6, 8] ?_
  refine aw_seq_region ?_
  refine sr_mv ?_
  refine sr_d rfl (wtd_none rfl) rfl (opS_call rfl rfl rfl rfl cl19 (few19_s a cap jobs _ hle0)) ?_
  rintro _ _ ⟨rfl, rfl⟩
  obtain ⟨xs, hxs⟩ : ∃ xs, xs = jobs.take 40 := ⟨_, rfl⟩
  have hs : ∀ G, SlV W0 G 10 Job.cells a cap xs := fun G => hxs ▸ (hs0 G).take 40
  have hx40 : xs.length ≤ 40 := by rw [hxs, List.length_take]; omega
  rw [← hxs]
  have hle := (hs []).le
  have hcb := (hs []).capb
  refine sr_as ?_
  refine sr_nil ?_
  refine aw_kp [1, 3, 4, 6, 8] ?_
  refine aw_seq ?_
  refine aw_seq_region ?_
  refine sr_as ?_
  refine sr_nil ?_
  refine aw_kp [1, 3, 4, 6, 8, 9] ?_
  refine aw_block ?_
  refine aw_loop (ι := Nat) (fun k => k ≤ xs.length ∧ ∀ j ∈ xs.take k, 0 ≤ j.user ∧ j.user ≤ 255) (fun k => [(1, .slice sa ops.length scap), (3, .slice a xs.length cap), (4, .pointer (some ⟨r0_0, 0, none⟩)), (6, .pointer (some ⟨r0_1, 0, none⟩)), (8, .bool false), (9, .int .i64 (k : Nat))]) (fun _ => (r0_1, .cells r.cells.toArray 36 (0, 0)) :: (r0_0, .cells all.cells.toArray 24 (0, 0)) :: []) (fun k => xs.length - k) 0 (⟨Nat.zero_le _, by simp⟩) KeepF.auto Sub.autoP ?_
  intro k hk9
  obtain ⟨hk, hrg⟩ := hk9
  refine aw_seq ?_
  refine aw_seq_region ?_
  refine sr_mv ?_
  refine sr_mv ?_
  refine sr_rd (x_lenSlice Try.underlying22 rfl) ?_
  refine sr_c (x_lt rfl rfl) (fun h1 => ?_) (fun h1 => ?_)
  · refine sr_nil ?_
    refine aw_kp [1, 3, 4, 6, 8, 9, 21, 22, 23, 24] ?_
    refine aw_true rfl ?_
    refine aw_skip ?_
    show AW _ _ _ _ _ _ _
    refine aw_seq ?_
    refine aw_block ?_
    refine aw_seq_region ?_
    obtain ⟨j, hj⟩ := get_ex (show k < xs.length by omega)
    obtain ⟨bj, oj, haj, hcj⟩ := (hs []).at_ k _ hj
    refine sr_mv ?_
    refine sr_mv ?_
    refine sr_rd (x_indexAddrN (k) Try.underlying22 sz91 rfl haj rfl (by omega) (by omega)) ?_
    refine sr_rd (x_fieldAddr fd91_1 rfl) ?_
    refine sr_rd (x_load ag3 rfl (cells_get (Cells.mono hcj (Sub.nil _)) 1 rfl)) ?_
    refine sr_c (x_lt rfl rfl) (fun h2 => ?_) (fun h2 => ?_)
    · refine sr_mv ?_
      refine sr_sk ?_
      refine sr_sk ?_
      refine sr_sk ?_
      refine sr_sk ?_
      refine sr_sk ?_
      refine sr_sk ?_
      refine sr_rd (x_pick_t rfl rfl rfl) ?_
      refine sr_nil ?_
      refine aw_kp [1, 3, 4, 6, 8, 9, 21, 22, 23, 24, 27, 28, 29, 30, 31, 32, 33, 34, 35, 36, 37, 38, 39, 40] ?_
      refine aw_true rfl ?_
      refine aw_seq_region ?_
      refine sr_d rfl (wtd_none rfl) rfl (opS_call rfl rfl rfl rfl cl28 (awake33_s _)) ?_
      rintro _ _ ⟨rfl, rfl⟩
      refine sr_as ?_
      refine sr_nil ?_
      refine aw_kp [1, 3, 4, 6, 8, 9, 21, 22, 23, 24, 27, 28, 29, 30, 31, 32, 33, 34, 35, 36, 37, 38, 39, 40, 41] ?_
      refine aw_ret ?_
      show ∃ v H2, ResV _ _ _ _ _ _ v ∧ Sub H2 _ ∧ _
      exact ⟨_, [], resV rfl (.cons rfl .nil), (Sub.nil _), rfl⟩
    · refine sr_mv ?_
      refine sr_ry (x_move rfl) ?_
      refine sr_ry (x_move rfl) ?_
      refine sr_ry (x_indexAddrN (k) Try.underlying22 sz91 rfl haj rfl (by omega) (by omega)) ?_
      refine sr_ry (x_fieldAddr fd91_1 rfl) ?_
      refine sr_ry (x_load ag3 rfl (cells_get (Cells.mono hcj (Sub.nil _)) 1 rfl)) ?_
      refine sr_cy (x_gt rfl rfl) (fun h3 => ?_) (fun h3 => ?_)
      · refine sr_rd (x_pick_f rfl rfl rfl) ?_
        refine sr_nil ?_
        refine aw_kp [1, 3, 4, 6, 8, 9, 21, 22, 23, 24, 27, 28, 29, 30, 31, 32, 33, 34, 35, 36, 37, 38, 39, 40] ?_
        refine aw_true rfl ?_
        refine aw_seq_region ?_
        refine sr_d rfl (wtd_none rfl) rfl (opS_call rfl rfl rfl rfl cl28 (awake33_s _)) ?_
        rintro _ _ ⟨rfl, rfl⟩
        refine sr_as ?_
        refine sr_nil ?_
        refine aw_kp [1, 3, 4, 6, 8, 9, 21, 22, 23, 24, 27, 28, 29, 30, 31, 32, 33, 34, 35, 36, 37, 38, 39, 40, 41] ?_
        refine aw_ret ?_
        show ∃ v H2, ResV _ _ _ _ _ _ v ∧ Sub H2 _ ∧ _
        exact ⟨_, [], resV rfl (.cons rfl .nil), (Sub.nil _), rfl⟩
      · refine sr_rd (x_pick_f rfl rfl rfl) ?_
        refine sr_nil ?_
        refine aw_kp [1, 3, 4, 6, 8, 9, 21, 22, 23, 24, 27, 28, 29, 30, 31, 32, 33, 34, 35, 36, 37, 38, 39, 40] ?_
        refine aw_false rfl ?_
        refine aw_skip ?_
        show AW _ _ _ _ _ _ _
        refine aw_region ?_
        refine sr_mv ?_
        refine sr_rd (x_add' rfl rfl (i64w (by omega) (by omega))) ?_
        refine sr_as ?_
        refine sr_nil ?_
        show ∃ s', _ ∧ _ ∧ _ ∧ _
        exact ⟨k + 1, ⟨by omega, fun j9 h9 => by rw [takeS hj, List.mem_append, List.mem_singleton] at h9; rcases h9 with h9 | rfl; exact hrg j9 h9; omega⟩, by omega, KeepF.auto, Sub.autoP⟩
  · refine sr_nil ?_
    refine aw_kp [1, 3, 4, 6, 8, 9, 21, 22, 23, 24] ?_
    refine aw_false rfl ?_
    refine aw_exit ?_
    show AW _ _ _ _ _ _ _
    refine aw_seq_region ?_
    rw [List.take_of_length_le (show xs.length ≤ k by omega)] at hrg
    refine sr_rd (x_loadN ag24 sz24 rfl (cells_ext mauto Ext.auto) rfl) ?_
    refine sr_mv ?_
    refine sr_d rfl (wtd_none rfl) rfl (opS_call rfl rfl rfl rfl cl88 (qmade_s all sa scap ops _ hso)) ?_
    rintro _ _ hmade
    obtain ⟨hn, rfl, rfl⟩ | ⟨hy, g9, m9, p, es, clk, f, h, rfl, hG, hel, rfl⟩ := hmade
    · refine sr_mv ?_
      refine sr_rd (x_extract rfl rfl) ?_
      refine sr_rd (x_extract rfl rfl) ?_
      refine sr_rd (x_extract rfl rfl) ?_
      refine sr_as ?_
      refine sr_as ?_
      refine sr_as ?_
      refine sr_nil ?_
      refine aw_kp [3, 4, 6, 8, 10, 11, 12] ?_
      refine aw_seq ?_
      refine aw_seq_region ?_
      refine sr_mv ?_
      refine sr_rd (x_eqnil Try.underlying144 rfl rfl) ?_
      refine sr_mv ?_
      refine sr_sk ?_
      refine sr_sk ?_
      refine sr_rd (x_pick_t rfl rfl rfl) ?_
      refine sr_mv ?_
      refine sr_sk ?_
      refine sr_sk ?_
      refine sr_rd (x_pick_t rfl rfl rfl) ?_
      refine sr_nil ?_
      refine aw_kp [3, 4, 6, 8, 10, 11, 58] ?_
      refine aw_true rfl ?_
      refine aw_seq_region ?_
      refine sr_mv ?_
      refine sr_rd (x_eqnil Try.underlying144 rfl rfl) ?_
      refine sr_mv ?_
      refine sr_ry (x_loadN ag24 sz24 rfl (cells_ext mauto Ext.auto) rfl) ?_
      refine sr_d rfl (wtd_yes rfl rfl rfl) rfl (opS_call rfl rfl rfl rfl cl23 (right23_s all _)) ?_
      rintro _ _ ⟨rfl, rfl⟩
      rw [decide_eq_false hn]
      refine sr_ry (x_not rfl) ?_
      refine sr_rd (x_pick_t rfl rfl rfl) ?_
      refine sr_mv ?_
      refine sr_d rfl (wtd_yes rfl rfl rfl) rfl (opS_call rfl rfl rfl rfl cl28 (awake33_s _)) ?_
      rintro _ _ ⟨rfl, rfl⟩
      refine sr_rd (x_pick_t rfl rfl rfl) ?_
      refine sr_as ?_
      refine sr_nil ?_
      refine aw_kp [3, 6, 8, 10, 11] ?_
      refine aw_ret ?_
      show ∃ v H2, ResV _ _ _ _ _ _ v ∧ Sub H2 _ ∧ _
      exact ⟨_, [], resV rfl (.cons rfl .nil), (Sub.nil _), rfl⟩
    · refine sr_mv ?_
      refine sr_rd (x_extract rfl rfl) ?_
      refine sr_rd (x_extract rfl rfl) ?_
      refine sr_rd (x_extract rfl rfl) ?_
      refine sr_as ?_
      refine sr_as ?_
      refine sr_as ?_
      refine sr_nil ?_
      refine aw_kp [3, 4, 6, 8, 10, 11, 12] ?_
      refine aw_seq ?_
      refine aw_seq_region ?_
      refine sr_mv ?_
      refine sr_rd (x_eqnil Try.underlying144 rfl rfl) ?_
      refine sr_mv ?_
      refine sr_ry (x_move rfl) ?_
      refine sr_ry (x_eqnil Try.underlying145 rfl rfl) ?_
      refine sr_rd (x_pick_f rfl rfl rfl) ?_
      refine sr_mv ?_
      refine sr_ry (x_move rfl) ?_
      refine sr_ry (x_not rfl) ?_
      refine sr_rd (x_pick_f rfl rfl rfl) ?_
      refine sr_nil ?_
      refine aw_kp [3, 4, 6, 8, 10, 11, 58] ?_
      refine aw_false rfl ?_
      refine aw_skip ?_
      show AW _ _ _ _ _ _ _
      refine aw_seq_region ?_
      refine sr_as ?_
      refine sr_nil ?_
      refine aw_kp [3, 6, 8, 10, 11, 13] ?_
      refine aw_seq ?_
      refine aw_seq_dr ⟨_, 20, 150, [[], [0], [0, 1], [0, 1, 2], [0, 1, 2, 3], [0, 1, 2, 3, 4], [0, 1, 2, 3], [0, 1, 2, 3, 4, 5, 6], [0, 1, 2, 3], [0, 1, 2, 3, 8], [0, 1, 2, 3], [0, 1, 2, 3, 10], [0, 1, 2, 3, 4, 5, 6, 7, 8, 9, 10, 11], [0, 1, 2, 3], [0, 1, 2, 3], [0, 1, 2, 3, 14], [0, 1, 2, 3, 4, 5, 6, 7, 8, 9, 10, 11, 12, 13, 14, 15], [0, 1, 2, 3, 4, 5, 6, 7, 8, 9, 10, 11, 12, 13, 14, 15, 16], [0, 1, 2, 3, 4, 5, 6, 7, 8, 9, 10, 11, 12, 13, 14, 15, 16, 17], [0, 1, 2, 3, 4, 5, 6, 7, 8, 9, 10, 11, 12, 13, 14, 15, 16, 17, 18]], [.light, .mem, .light, .light, .light, .mem, .light, .call, .light, .mem, .light, .mem, .call, .light, .light, .mem, .call, .call, .light, .light]⟩ (by kernel_rfl) rfl rfl mix ?_
      have hbd := useOf_bd r.user xs
      refine dr_l (x_fieldAddr fd36_0 rfl) ?_
      refine dr_mem0 rfl rfl (wtd_none rfl) (x_load ag3 rfl (cells_ext mauto Ext.auto)) ?_
      refine dr_cmp rfl rfl (wtd_none rfl) (x_eq rfl rfl) (fun h4 => ?_) (fun h4 => ?_)
      · refine dr_l (x_move rfl) ?_
        refine dr_y (x_fieldAddr fd36_2 rfl) ?_
        refine dr_mem0 rfl rfl (wtd_yes rfl rfl rfl) (x_load ag3 rfl (cells_ext mauto Ext.auto)) ?_
        refine dr_y (x_move rfl) ?_
        refine dr_callq0 rfl rfl (wtd_yes rfl rfl rfl) (opS_F rfl rfl rfl rfl cl21 ((of21_s r.user a cap xs _ (hs _) (by omega)))) (⟨_, rfl⟩) ?_
        rintro _ rfl
        refine dr_y (x_fieldAddr fd36_3 rfl) ?_
        refine dr_mem0 rfl rfl (wtd_yes rfl rfl rfl) (x_load ag3 rfl (cells_ext mauto Ext.auto)) ?_
        refine dr_y (x_fieldAddr fd36_4 rfl) ?_
        refine dr_mem0 rfl rfl (wtd_yes rfl rfl rfl) (x_load ag2 rfl (cells_ext mauto Ext.auto)) ?_
        refine dr_callq0 rfl rfl (wtd_yes rfl rfl rfl) (opS_F rfl rfl rfl rfl cl25 ((with25_s (useOf r.user xs) _ _ _ (by omega)))) (⟨_, rfl⟩) ?_
        rintro _ rfl
        refine dr_y (x_move rfl) ?_
        refine dr_y (x_fieldAddr fd36_2 rfl) ?_
        refine dr_mem0 rfl rfl (wtd_yes rfl rfl rfl) (x_load ag3 rfl (cells_ext mauto Ext.auto)) ?_
        refine dr_callq0 rfl rfl (wtd_yes rfl rfl rfl) (opS_F rfl rfl rfl rfl cl90 ((pof_s p all f h r.user _ mauto))) (⟨_, rfl⟩) ?_
        rintro _ rfl
        refine dr_callq0 rfl rfl (wtd_yes rfl rfl rfl) (opS_F rfl rfl rfl rfl cl27 ((within27_s _ _ _))) (⟨_, rfl⟩) ?_
        rintro _ rfl
        refine dr_y (x_not rfl) ?_
        refine dr_l (x_pick_t rfl rfl rfl) ?_
        refine dr_nil0 ?_
        refine aw_kp [3, 6, 8, 10, 11, 13, 88] ?_
        refine aw_cond rfl (fun hb5 => ?_) (fun hb5 => ?_)
        · refine aw_region ?_
          refine sr_as ?_
          refine sr_nil ?_
          show AW _ _ _ _ _ _ _
          refine aw_seq ?_
          refine aw_seq_region ?_
          refine sr_mv ?_
          refine sr_rd (x_loadN ag36 sz36 rfl (cells_ext mauto Ext.auto) rfl) ?_
          refine sr_mv ?_
          refine sr_d rfl (wtd_none rfl) rfl (opS_call rfl rfl rfl rfl cl92 (qcheck_s g9 m9 all _ (cells_ext mauto Ext.auto) r a cap xs es clk f h (map_at mauto) hG (hs _) (by omega))) ?_
          rintro _ _ ⟨rfl, rfl⟩
          refine sr_mv ?_
          refine sr_c (x_ne rfl rfl) (fun h6 => absurd h6 (by exact fun h9 => h9 (by unfold checkE; first | (rw [if_pos (by omega)]; done) | (rw [if_neg (by omega), if_pos (nd_f (by assumption))]; done) | (rw [if_neg (by omega), if_neg (nd_t (by assumption))]; done)))) (fun h6 => ?_)
          refine sr_nil ?_
          refine aw_kp [3, 8, 10, 11, 94] ?_
          refine aw_false rfl ?_
          refine aw_skip ?_
          show AW _ _ _ _ _ _ _
          refine aw_seq_region ?_
          refine sr_mv ?_
          refine sr_mv ?_
          refine sr_d rfl (wtd_none rfl) rfl (opS_call rfl rfl rfl rfl cl93 (qover_s g9 m9 all es clk f h (pl p all f h :: ((r0_1, .cells r.cells.toArray 36 (0, 0)) :: (r0_0, .cells all.cells.toArray 24 (0, 0)) :: [])) hG a cap xs hs hx40)) ?_
          rintro _ _ ⟨Z, a6, c6, E6, rfl, hZ, hZm, V6, rfl⟩
          have hV6 := V6.slv' (W0 := W0) (xs := Z) (fun _ => rfl) rfl (Sub.refl _)
          have hle6 := hV6.le
          have hcb6 := hV6.capb
          have hZr : ∀ z ∈ Z, 0 ≤ z ∧ z ≤ 255 := fun z hz => by obtain ⟨⟨j, hj, rfl⟩, _⟩ := (hZm z).1 hz; exact hrg j hj
          refine sr_as ?_
          refine sr_nil ?_
          refine aw_kp [3, 8, 11, 14] ?_
          refine aw_seq_region ?_
          refine sr_as ?_
          refine sr_nil ?_
          refine aw_kp [3, 8, 11, 14, 15] ?_
          refine aw_seq ?_
          refine aw_seq_region ?_
          refine sr_as ?_
          refine sr_nil ?_
          refine aw_kp [3, 8, 11, 14, 15, 16] ?_
          refine aw_block ?_
          refine aw_loop (ι := Nat × Nat) (fun s => s.1 ≤ 256 ∧ UpTo Z s.1 s.2) (fun s => [(3, .slice a xs.length cap), (8, .bool false), (11, .pointer (some ⟨p, 0, none⟩)), (14, .slice a6 Z.length c6), (15, .int .i64 (s.2 : Nat)), (16, .int .i64 (s.1 : Nat))]) (fun _ => E6 ++ (gate g9 all m9 :: gmap m9 es clk :: pl p all f h :: ((r0_1, .cells r.cells.toArray 36 (0, 0)) :: (r0_0, .cells all.cells.toArray 24 (0, 0)) :: []))) (fun s => 256 - s.1) (0, 0) (⟨Nat.zero_le _, UpTo.zero (fun z hz => (hZr z hz).1)⟩) KeepF.auto Sub.autoP ?_
          intro s hs9
          obtain ⟨i, k⟩ := s
          dsimp only at hs9 ⊢
          obtain ⟨hi, hup⟩ := hs9
          have hukl := hup.1
          refine aw_seq ?_
          refine aw_seq_region ?_
          refine sr_mv ?_
          refine sr_c (x_lt rfl rfl) (fun h7 => ?_) (fun h7 => ?_)
          · refine sr_nil ?_
            refine aw_kp [3, 8, 11, 14, 15, 16, 98, 99] ?_
            refine aw_true rfl ?_
            refine aw_skip ?_
            show AW _ _ _ _ _ _ _
            refine aw_seq ?_
            refine aw_block ?_
            refine aw_seq_region ?_
            refine sr_as ?_
            refine sr_nil ?_
            refine aw_kp [3, 8, 11, 14, 15, 16, 17, 98, 99] ?_
            refine aw_seq ?_
            refine aw_seq_region ?_
            refine sr_as ?_
            refine sr_nil ?_
            refine aw_kp [3, 8, 11, 14, 15, 16, 17, 18, 98, 99] ?_
            refine aw_block ?_
            refine aw_loop (ι := Nat × Bool) (fun t => t.1 ≤ xs.length ∧ t.2 = anyU xs t.1 (i : Int)) (fun t => [(3, .slice a xs.length cap), (8, .bool false), (11, .pointer (some ⟨p, 0, none⟩)), (14, .slice a6 Z.length c6), (15, .int .i64 (k : Nat)), (16, .int .i64 (i : Nat)), (17, .bool t.2), (18, .int .i64 (t.1 : Nat))]) (fun _ => E6 ++ (gate g9 all m9 :: gmap m9 es clk :: pl p all f h :: ((r0_1, .cells r.cells.toArray 36 (0, 0)) :: (r0_0, .cells all.cells.toArray 24 (0, 0)) :: []))) (fun t => xs.length - t.1) (0, false) (⟨Nat.zero_le _, rfl⟩) KeepF.auto Sub.autoP ?_
            intro t ht9
            obtain ⟨q, b⟩ := t
            dsimp only at ht9 ⊢
            obtain ⟨hq, hb⟩ := ht9
            refine aw_seq ?_
            refine aw_seq_region ?_
            refine sr_mv ?_
            refine sr_mv ?_
            refine sr_rd (x_lenSlice Try.underlying22 rfl) ?_
            refine sr_c (x_lt rfl rfl) (fun h8 => ?_) (fun h8 => ?_)
            · refine sr_nil ?_
              refine aw_kp [3, 8, 11, 14, 15, 16, 17, 18, 102, 103, 104, 105] ?_
              refine aw_true rfl ?_
              refine aw_skip ?_
              show AW _ _ _ _ _ _ _
              refine aw_seq ?_
              refine aw_block ?_
              refine aw_region ?_
              cases b
              · refine sr_mv ?_
                refine sr_mv ?_
                obtain ⟨j, hj⟩ := get_ex (show q < xs.length by omega)
                obtain ⟨bj, oj, haj, hcj⟩ := (hs []).at_ q _ hj
                refine sr_ry (x_move rfl) ?_
                refine sr_ry (x_move rfl) ?_
                refine sr_ry (x_indexAddrN (q) Try.underlying22 sz91 rfl haj rfl (by omega) (by omega)) ?_
                refine sr_ry (x_fieldAddr fd91_1 rfl) ?_
                refine sr_ry (x_load ag3 rfl (cells_get (Cells.mono hcj (Sub.nil _)) 1 rfl)) ?_
                refine sr_ry (x_move rfl) ?_
                refine sr_cy (x_eq rfl rfl) (fun h9 => ?_) (fun h9 => ?_)
                · refine sr_rd (x_pick_f rfl rfl rfl) ?_
                  refine sr_as ?_
                  refine sr_nil ?_
                  show AW _ _ _ _ _ _ _
                  refine aw_region ?_
                  refine sr_mv ?_
                  refine sr_rd (x_add' rfl rfl (i64w (by omega) (by omega))) ?_
                  refine sr_as ?_
                  refine sr_nil ?_
                  show ∃ s', _ ∧ _ ∧ _ ∧ _
                  first | exact ⟨(q + 1, true), ⟨by dsimp only; omega, (by dsimp only; rw [anyU_s hj]; first | (rw [← hb]; rfl) | (rw [decide_eq_true (by omega), Bool.or_true]))⟩, by dsimp only; omega, KeepF.auto, Sub.autoD⟩ | exact ⟨(q + 1, false), ⟨by dsimp only; omega, (by dsimp only; rw [anyU_s hj, ← hb, decide_eq_false (by omega)]; rfl)⟩, by dsimp only; omega, KeepF.auto, Sub.autoD⟩
                · refine sr_rd (x_pick_f rfl rfl rfl) ?_
                  refine sr_as ?_
                  refine sr_nil ?_
                  show AW _ _ _ _ _ _ _
                  refine aw_region ?_
                  refine sr_mv ?_
                  refine sr_rd (x_add' rfl rfl (i64w (by omega) (by omega))) ?_
                  refine sr_as ?_
                  refine sr_nil ?_
                  show ∃ s', _ ∧ _ ∧ _ ∧ _
                  first | exact ⟨(q + 1, true), ⟨by dsimp only; omega, (by dsimp only; rw [anyU_s hj]; first | (rw [← hb]; rfl) | (rw [decide_eq_true (by omega), Bool.or_true]))⟩, by dsimp only; omega, KeepF.auto, Sub.autoD⟩ | exact ⟨(q + 1, false), ⟨by dsimp only; omega, (by dsimp only; rw [anyU_s hj, ← hb, decide_eq_false (by omega)]; rfl)⟩, by dsimp only; omega, KeepF.auto, Sub.autoD⟩
              · refine sr_mv ?_
                refine sr_mv ?_
                obtain ⟨j, hj⟩ := get_ex (show q < xs.length by omega)
                obtain ⟨bj, oj, haj, hcj⟩ := (hs []).at_ q _ hj
                refine sr_sk ?_
                refine sr_sk ?_
                refine sr_sk ?_
                refine sr_sk ?_
                refine sr_sk ?_
                refine sr_sk ?_
                refine sr_sk ?_
                refine sr_rd (x_pick_t rfl rfl rfl) ?_
                refine sr_as ?_
                refine sr_nil ?_
                show AW _ _ _ _ _ _ _
                refine aw_region ?_
                refine sr_mv ?_
                refine sr_rd (x_add' rfl rfl (i64w (by omega) (by omega))) ?_
                refine sr_as ?_
                refine sr_nil ?_
                show ∃ s', _ ∧ _ ∧ _ ∧ _
                first | exact ⟨(q + 1, true), ⟨by dsimp only; omega, (by dsimp only; rw [anyU_s hj]; first | (rw [← hb]; rfl) | (rw [decide_eq_true (by omega), Bool.or_true]))⟩, by dsimp only; omega, KeepF.auto, Sub.autoD⟩ | exact ⟨(q + 1, false), ⟨by dsimp only; omega, (by dsimp only; rw [anyU_s hj, ← hb, decide_eq_false (by omega)]; rfl)⟩, by dsimp only; omega, KeepF.auto, Sub.autoD⟩
            · refine sr_nil ?_
              refine aw_kp [3, 8, 11, 14, 15, 16, 17, 18, 102, 103, 104, 105] ?_
              refine aw_false rfl ?_
              refine aw_exit ?_
              show AW _ _ _ _ _ _ _
              refine aw_seq_region ?_
              cases b
              · refine sr_mv ?_
                refine sr_mv ?_
                refine sr_sk ?_
                refine sr_sk ?_
                refine sr_sk ?_
                refine sr_sk ?_
                refine sr_sk ?_
                refine sr_sk ?_
                refine sr_sk ?_
                refine sr_sk ?_
                refine sr_rd (x_pick_f rfl rfl rfl) ?_
                refine sr_nil ?_
                refine aw_kp [3, 8, 11, 14, 15, 16, 17, 18, 102, 103, 104, 105, 118, 119, 120, 121, 122, 123, 124, 125, 126, 127, 128] ?_
                refine aw_false rfl ?_
                refine aw_skip ?_
                show AW _ _ _ _ _ _ _
                refine aw_region ?_
                refine sr_mv ?_
                refine sr_rd (x_add' rfl rfl (i64w (by omega) (by omega))) ?_
                refine sr_as ?_
                refine sr_nil ?_
                show ∃ s', _ ∧ _ ∧ _ ∧ _
                exact ⟨(i + 1, k), ⟨by dsimp only; omega, hup.no (fun q9 => anyU_n hb (by omega) ((hZm _).1 q9).1)⟩, by dsimp only; omega, KeepF.auto, Sub.autoP⟩
              · refine sr_mv ?_
                refine sr_mv ?_
                refine sr_ry (x_move rfl) ?_
                refine sr_ry (x_move rfl) ?_
                refine sr_d rfl (wtd_yes rfl rfl rfl) rfl (opS_call rfl rfl rfl rfl cl21 (of21_s (i : Int) a cap xs _ (hs _) (by omega))) ?_
                rintro _ _ ⟨rfl, rfl⟩
                refine sr_ry (x_move rfl) ?_
                refine sr_ry (x_move rfl) ?_
                refine sr_d rfl (wtd_yes rfl rfl rfl) rfl (opS_call rfl rfl rfl rfl cl90 (pof_s p all f h (i : Int) _ mauto)) ?_
                rintro _ _ ⟨rfl, rfl⟩
                refine sr_d rfl (wtd_yes rfl rfl rfl) rfl (opS_call rfl rfl rfl rfl cl27 (within27_s _ _ _)) ?_
                rintro _ _ ⟨rfl, rfl⟩
                generalize hd2 : decide (WithinP (useOf (i : Int) xs) (limU all f h (i : Int))) = d2
                cases d2
                · refine sr_ry (x_not rfl) ?_
                  refine sr_rd (x_pick_t rfl rfl rfl) ?_
                  refine sr_nil ?_
                  refine aw_kp [3, 8, 11, 14, 15, 16, 17, 18, 102, 103, 104, 105, 118, 119, 120, 121, 122, 123, 124, 125, 126, 127, 128] ?_
                  refine aw_true rfl ?_
                  refine aw_seq ?_
                  refine aw_seq_region ?_
                  obtain ⟨hz, hup2⟩ := hup.yes hZ ((hZm _).2 ⟨anyU_y hb (by omega), of_decide_eq_false hd2⟩)
                  have hkl := get_lt hz
                  obtain ⟨bz, oz, hax, hcz⟩ := hV6.at_ k _ hz
                  refine sr_mv ?_
                  refine sr_mv ?_
                  refine sr_rd (x_lenSlice Try.underlying134 rfl) ?_
                  refine sr_c (x_ge rfl rfl) (fun h10 => absurd h10 (by first | omega | decide)) (fun h10 => ?_)
                  refine sr_mv ?_
                  refine sr_ry (x_move rfl) ?_
                  refine sr_ry (x_move rfl) ?_
                  refine sr_ry (x_indexAddrN k Try.underlying134 sz3 rfl hax rfl (by omega) (by omega)) ?_
                  refine sr_ry (x_load ag3 rfl (Cells.mono hcz Sub.autoE)) ?_
                  refine sr_ry (x_move rfl) ?_
                  refine sr_cy (x_ne rfl rfl) (fun h11 => absurd h11 (by exact fun h9 => h9 rfl)) (fun h11 => ?_)
                  refine sr_rd (x_pick_f rfl rfl rfl) ?_
                  refine sr_nil ?_
                  refine aw_kp [3, 8, 11, 14, 15, 16, 17, 18, 102, 103, 104, 105, 118, 119, 120, 121, 122, 123, 124, 125, 126, 127, 128, 129, 130, 131, 132, 133, 134, 135, 136, 137, 138, 139, 140] ?_
                  refine aw_false rfl ?_
                  refine aw_skip ?_
                  show AW _ _ _ _ _ _ _
                  refine aw_region ?_
                  refine sr_mv ?_
                  refine sr_rd (x_add' rfl rfl (i64w (by omega) (by omega))) ?_
                  refine sr_as ?_
                  refine sr_nil ?_
                  show AW _ _ _ _ _ _ _
                  refine aw_region ?_
                  refine sr_mv ?_
                  refine sr_rd (x_add' rfl rfl (i64w (by omega) (by omega))) ?_
                  refine sr_as ?_
                  refine sr_nil ?_
                  show ∃ s', _ ∧ _ ∧ _ ∧ _
                  exact ⟨(i + 1, k + 1), ⟨by dsimp only; omega, hup2⟩, by dsimp only; omega, KeepF.auto, Sub.autoP⟩
                · refine sr_ry (x_not rfl) ?_
                  refine sr_rd (x_pick_t rfl rfl rfl) ?_
                  refine sr_nil ?_
                  refine aw_kp [3, 8, 11, 14, 15, 16, 17, 18, 102, 103, 104, 105, 118, 119, 120, 121, 122, 123, 124, 125, 126, 127, 128] ?_
                  refine aw_false rfl ?_
                  refine aw_skip ?_
                  show AW _ _ _ _ _ _ _
                  refine aw_region ?_
                  refine sr_mv ?_
                  refine sr_rd (x_add' rfl rfl (i64w (by omega) (by omega))) ?_
                  refine sr_as ?_
                  refine sr_nil ?_
                  show ∃ s', _ ∧ _ ∧ _ ∧ _
                  exact ⟨(i + 1, k), ⟨by dsimp only; omega, hup.no (fun q9 => ((hZm _).1 q9).2 (of_decide_eq_true hd2))⟩, by dsimp only; omega, KeepF.auto, Sub.autoP⟩
          · refine sr_nil ?_
            refine aw_kp [3, 8, 11, 14, 15, 16, 98, 99] ?_
            refine aw_false rfl ?_
            refine aw_exit ?_
            show AW _ _ _ _ _ _ _
            refine aw_seq_region ?_
            obtain rfl : i = 256 := by omega
            have hkz := hup.fin (fun z hz => by have := hZr z hz; omega)
            refine sr_mv ?_
            refine sr_mv ?_
            refine sr_rd (x_lenSlice Try.underlying134 rfl) ?_
            refine sr_c (x_eq rfl rfl) (fun h12 => ?_) (fun h12 => absurd (by first | omega | decide) h12)
            refine sr_mv ?_
            refine sr_d rfl (wtd_yes rfl rfl rfl) rfl (opS_call rfl rfl rfl rfl cl28 (awake33_s _)) ?_
            rintro _ _ ⟨rfl, rfl⟩
            refine sr_rd (x_pick_t rfl rfl rfl) ?_
            refine sr_as ?_
            refine sr_nil ?_
            refine aw_kp [8] ?_
            refine aw_ret ?_
            show ∃ v H2, ResV _ _ _ _ _ _ v ∧ Sub H2 _ ∧ _
            exact ⟨_, [], resV rfl (.cons rfl .nil), (Sub.nil _), rfl⟩
        · refine aw_skip ?_
          show AW _ _ _ _ _ _ _
          refine aw_seq ?_
          refine aw_seq_region ?_
          refine sr_mv ?_
          refine sr_rd (x_loadN ag36 sz36 rfl (cells_ext mauto Ext.auto) rfl) ?_
          refine sr_mv ?_
          refine sr_d rfl (wtd_none rfl) rfl (opS_call rfl rfl rfl rfl cl92 (qcheck_s g9 m9 all _ (cells_ext mauto Ext.auto) r a cap xs es clk f h (map_at mauto) hG (hs _) (by omega))) ?_
          rintro _ _ ⟨rfl, rfl⟩
          refine sr_mv ?_
          refine sr_c (x_ne rfl rfl) (fun h13 => absurd h13 (by exact fun h9 => h9 (by unfold checkE; first | (rw [if_pos (by omega)]; done) | (rw [if_neg (by omega), if_pos (nd_f (by assumption))]; done) | (rw [if_neg (by omega), if_neg (nd_t (by assumption))]; done)))) (fun h13 => ?_)
          refine sr_nil ?_
          refine aw_kp [3, 8, 10, 11, 94] ?_
          refine aw_false rfl ?_
          refine aw_skip ?_
          show AW _ _ _ _ _ _ _
          refine aw_seq_region ?_
          refine sr_mv ?_
          refine sr_mv ?_
          refine sr_d rfl (wtd_none rfl) rfl (opS_call rfl rfl rfl rfl cl93 (qover_s g9 m9 all es clk f h (pl p all f h :: ((r0_1, .cells r.cells.toArray 36 (0, 0)) :: (r0_0, .cells all.cells.toArray 24 (0, 0)) :: [])) hG a cap xs hs hx40)) ?_
          rintro _ _ ⟨Z, a6, c6, E6, rfl, hZ, hZm, V6, rfl⟩
          have hV6 := V6.slv' (W0 := W0) (xs := Z) (fun _ => rfl) rfl (Sub.refl _)
          have hle6 := hV6.le
          have hcb6 := hV6.capb
          have hZr : ∀ z ∈ Z, 0 ≤ z ∧ z ≤ 255 := fun z hz => by obtain ⟨⟨j, hj, rfl⟩, _⟩ := (hZm z).1 hz; exact hrg j hj
          refine sr_as ?_
          refine sr_nil ?_
          refine aw_kp [3, 8, 11, 14] ?_
          refine aw_seq_region ?_
          refine sr_as ?_
          refine sr_nil ?_
          refine aw_kp [3, 8, 11, 14, 15] ?_
          refine aw_seq ?_
          refine aw_seq_region ?_
          refine sr_as ?_
          refine sr_nil ?_
          refine aw_kp [3, 8, 11, 14, 15, 16] ?_
          refine aw_block ?_
          refine aw_loop (ι := Nat × Nat) (fun s => s.1 ≤ 256 ∧ UpTo Z s.1 s.2) (fun s => [(3, .slice a xs.length cap), (8, .bool false), (11, .pointer (some ⟨p, 0, none⟩)), (14, .slice a6 Z.length c6), (15, .int .i64 (s.2 : Nat)), (16, .int .i64 (s.1 : Nat))]) (fun _ => E6 ++ (gate g9 all m9 :: gmap m9 es clk :: pl p all f h :: ((r0_1, .cells r.cells.toArray 36 (0, 0)) :: (r0_0, .cells all.cells.toArray 24 (0, 0)) :: []))) (fun s => 256 - s.1) (0, 0) (⟨Nat.zero_le _, UpTo.zero (fun z hz => (hZr z hz).1)⟩) KeepF.auto Sub.autoP ?_
          intro s hs9
          obtain ⟨i, k⟩ := s
          dsimp only at hs9 ⊢
          obtain ⟨hi, hup⟩ := hs9
          have hukl := hup.1
          refine aw_seq ?_
          refine aw_seq_region ?_
          refine sr_mv ?_
          refine sr_c (x_lt rfl rfl) (fun h14 => ?_) (fun h14 => ?_)
          · refine sr_nil ?_
            refine aw_kp [3, 8, 11, 14, 15, 16, 98, 99] ?_
            refine aw_true rfl ?_
            refine aw_skip ?_
            show AW _ _ _ _ _ _ _
            refine aw_seq ?_
            refine aw_block ?_
            refine aw_seq_region ?_
            refine sr_as ?_
            refine sr_nil ?_
            refine aw_kp [3, 8, 11, 14, 15, 16, 17, 98, 99] ?_
            refine aw_seq ?_
            refine aw_seq_region ?_
            refine sr_as ?_
            refine sr_nil ?_
            refine aw_kp [3, 8, 11, 14, 15, 16, 17, 18, 98, 99] ?_
            refine aw_block ?_
            refine aw_loop (ι := Nat × Bool) (fun t => t.1 ≤ xs.length ∧ t.2 = anyU xs t.1 (i : Int)) (fun t => [(3, .slice a xs.length cap), (8, .bool false), (11, .pointer (some ⟨p, 0, none⟩)), (14, .slice a6 Z.length c6), (15, .int .i64 (k : Nat)), (16, .int .i64 (i : Nat)), (17, .bool t.2), (18, .int .i64 (t.1 : Nat))]) (fun _ => E6 ++ (gate g9 all m9 :: gmap m9 es clk :: pl p all f h :: ((r0_1, .cells r.cells.toArray 36 (0, 0)) :: (r0_0, .cells all.cells.toArray 24 (0, 0)) :: []))) (fun t => xs.length - t.1) (0, false) (⟨Nat.zero_le _, rfl⟩) KeepF.auto Sub.autoP ?_
            intro t ht9
            obtain ⟨q, b⟩ := t
            dsimp only at ht9 ⊢
            obtain ⟨hq, hb⟩ := ht9
            refine aw_seq ?_
            refine aw_seq_region ?_
            refine sr_mv ?_
            refine sr_mv ?_
            refine sr_rd (x_lenSlice Try.underlying22 rfl) ?_
            refine sr_c (x_lt rfl rfl) (fun h15 => ?_) (fun h15 => ?_)
            · refine sr_nil ?_
              refine aw_kp [3, 8, 11, 14, 15, 16, 17, 18, 102, 103, 104, 105] ?_
              refine aw_true rfl ?_
              refine aw_skip ?_
              show AW _ _ _ _ _ _ _
              refine aw_seq ?_
              refine aw_block ?_
              refine aw_region ?_
              cases b
              · refine sr_mv ?_
                refine sr_mv ?_
                obtain ⟨j, hj⟩ := get_ex (show q < xs.length by omega)
                obtain ⟨bj, oj, haj, hcj⟩ := (hs []).at_ q _ hj
                refine sr_ry (x_move rfl) ?_
                refine sr_ry (x_move rfl) ?_
                refine sr_ry (x_indexAddrN (q) Try.underlying22 sz91 rfl haj rfl (by omega) (by omega)) ?_
                refine sr_ry (x_fieldAddr fd91_1 rfl) ?_
                refine sr_ry (x_load ag3 rfl (cells_get (Cells.mono hcj (Sub.nil _)) 1 rfl)) ?_
                refine sr_ry (x_move rfl) ?_
                refine sr_cy (x_eq rfl rfl) (fun h16 => ?_) (fun h16 => ?_)
                · refine sr_rd (x_pick_f rfl rfl rfl) ?_
                  refine sr_as ?_
                  refine sr_nil ?_
                  show AW _ _ _ _ _ _ _
                  refine aw_region ?_
                  refine sr_mv ?_
                  refine sr_rd (x_add' rfl rfl (i64w (by omega) (by omega))) ?_
                  refine sr_as ?_
                  refine sr_nil ?_
                  show ∃ s', _ ∧ _ ∧ _ ∧ _
                  first | exact ⟨(q + 1, true), ⟨by dsimp only; omega, (by dsimp only; rw [anyU_s hj]; first | (rw [← hb]; rfl) | (rw [decide_eq_true (by omega), Bool.or_true]))⟩, by dsimp only; omega, KeepF.auto, Sub.autoD⟩ | exact ⟨(q + 1, false), ⟨by dsimp only; omega, (by dsimp only; rw [anyU_s hj, ← hb, decide_eq_false (by omega)]; rfl)⟩, by dsimp only; omega, KeepF.auto, Sub.autoD⟩
                · refine sr_rd (x_pick_f rfl rfl rfl) ?_
                  refine sr_as ?_
                  refine sr_nil ?_
                  show AW _ _ _ _ _ _ _
                  refine aw_region ?_
                  refine sr_mv ?_
                  refine sr_rd (x_add' rfl rfl (i64w (by omega) (by omega))) ?_
                  refine sr_as ?_
                  refine sr_nil ?_
                  show ∃ s', _ ∧ _ ∧ _ ∧ _
                  first | exact ⟨(q + 1, true), ⟨by dsimp only; omega, (by dsimp only; rw [anyU_s hj]; first | (rw [← hb]; rfl) | (rw [decide_eq_true (by omega), Bool.or_true]))⟩, by dsimp only; omega, KeepF.auto, Sub.autoD⟩ | exact ⟨(q + 1, false), ⟨by dsimp only; omega, (by dsimp only; rw [anyU_s hj, ← hb, decide_eq_false (by omega)]; rfl)⟩, by dsimp only; omega, KeepF.auto, Sub.autoD⟩
              · refine sr_mv ?_
                refine sr_mv ?_
                obtain ⟨j, hj⟩ := get_ex (show q < xs.length by omega)
                obtain ⟨bj, oj, haj, hcj⟩ := (hs []).at_ q _ hj
                refine sr_sk ?_
                refine sr_sk ?_
                refine sr_sk ?_
                refine sr_sk ?_
                refine sr_sk ?_
                refine sr_sk ?_
                refine sr_sk ?_
                refine sr_rd (x_pick_t rfl rfl rfl) ?_
                refine sr_as ?_
                refine sr_nil ?_
                show AW _ _ _ _ _ _ _
                refine aw_region ?_
                refine sr_mv ?_
                refine sr_rd (x_add' rfl rfl (i64w (by omega) (by omega))) ?_
                refine sr_as ?_
                refine sr_nil ?_
                show ∃ s', _ ∧ _ ∧ _ ∧ _
                first | exact ⟨(q + 1, true), ⟨by dsimp only; omega, (by dsimp only; rw [anyU_s hj]; first | (rw [← hb]; rfl) | (rw [decide_eq_true (by omega), Bool.or_true]))⟩, by dsimp only; omega, KeepF.auto, Sub.autoD⟩ | exact ⟨(q + 1, false), ⟨by dsimp only; omega, (by dsimp only; rw [anyU_s hj, ← hb, decide_eq_false (by omega)]; rfl)⟩, by dsimp only; omega, KeepF.auto, Sub.autoD⟩
            · refine sr_nil ?_
              refine aw_kp [3, 8, 11, 14, 15, 16, 17, 18, 102, 103, 104, 105] ?_
              refine aw_false rfl ?_
              refine aw_exit ?_
              show AW _ _ _ _ _ _ _
              refine aw_seq_region ?_
              cases b
              · refine sr_mv ?_
                refine sr_mv ?_
                refine sr_sk ?_
                refine sr_sk ?_
                refine sr_sk ?_
                refine sr_sk ?_
                refine sr_sk ?_
                refine sr_sk ?_
                refine sr_sk ?_
                refine sr_sk ?_
                refine sr_rd (x_pick_f rfl rfl rfl) ?_
                refine sr_nil ?_
                refine aw_kp [3, 8, 11, 14, 15, 16, 17, 18, 102, 103, 104, 105, 118, 119, 120, 121, 122, 123, 124, 125, 126, 127, 128] ?_
                refine aw_false rfl ?_
                refine aw_skip ?_
                show AW _ _ _ _ _ _ _
                refine aw_region ?_
                refine sr_mv ?_
                refine sr_rd (x_add' rfl rfl (i64w (by omega) (by omega))) ?_
                refine sr_as ?_
                refine sr_nil ?_
                show ∃ s', _ ∧ _ ∧ _ ∧ _
                exact ⟨(i + 1, k), ⟨by dsimp only; omega, hup.no (fun q9 => anyU_n hb (by omega) ((hZm _).1 q9).1)⟩, by dsimp only; omega, KeepF.auto, Sub.autoP⟩
              · refine sr_mv ?_
                refine sr_mv ?_
                refine sr_ry (x_move rfl) ?_
                refine sr_ry (x_move rfl) ?_
                refine sr_d rfl (wtd_yes rfl rfl rfl) rfl (opS_call rfl rfl rfl rfl cl21 (of21_s (i : Int) a cap xs _ (hs _) (by omega))) ?_
                rintro _ _ ⟨rfl, rfl⟩
                refine sr_ry (x_move rfl) ?_
                refine sr_ry (x_move rfl) ?_
                refine sr_d rfl (wtd_yes rfl rfl rfl) rfl (opS_call rfl rfl rfl rfl cl90 (pof_s p all f h (i : Int) _ mauto)) ?_
                rintro _ _ ⟨rfl, rfl⟩
                refine sr_d rfl (wtd_yes rfl rfl rfl) rfl (opS_call rfl rfl rfl rfl cl27 (within27_s _ _ _)) ?_
                rintro _ _ ⟨rfl, rfl⟩
                generalize hd2 : decide (WithinP (useOf (i : Int) xs) (limU all f h (i : Int))) = d2
                cases d2
                · refine sr_ry (x_not rfl) ?_
                  refine sr_rd (x_pick_t rfl rfl rfl) ?_
                  refine sr_nil ?_
                  refine aw_kp [3, 8, 11, 14, 15, 16, 17, 18, 102, 103, 104, 105, 118, 119, 120, 121, 122, 123, 124, 125, 126, 127, 128] ?_
                  refine aw_true rfl ?_
                  refine aw_seq ?_
                  refine aw_seq_region ?_
                  obtain ⟨hz, hup2⟩ := hup.yes hZ ((hZm _).2 ⟨anyU_y hb (by omega), of_decide_eq_false hd2⟩)
                  have hkl := get_lt hz
                  obtain ⟨bz, oz, hax, hcz⟩ := hV6.at_ k _ hz
                  refine sr_mv ?_
                  refine sr_mv ?_
                  refine sr_rd (x_lenSlice Try.underlying134 rfl) ?_
                  refine sr_c (x_ge rfl rfl) (fun h17 => absurd h17 (by first | omega | decide)) (fun h17 => ?_)
                  refine sr_mv ?_
                  refine sr_ry (x_move rfl) ?_
                  refine sr_ry (x_move rfl) ?_
                  refine sr_ry (x_indexAddrN k Try.underlying134 sz3 rfl hax rfl (by omega) (by omega)) ?_
                  refine sr_ry (x_load ag3 rfl (Cells.mono hcz Sub.autoE)) ?_
                  refine sr_ry (x_move rfl) ?_
                  refine sr_cy (x_ne rfl rfl) (fun h18 => absurd h18 (by exact fun h9 => h9 rfl)) (fun h18 => ?_)
                  refine sr_rd (x_pick_f rfl rfl rfl) ?_
                  refine sr_nil ?_
                  refine aw_kp [3, 8, 11, 14, 15, 16, 17, 18, 102, 103, 104, 105, 118, 119, 120, 121, 122, 123, 124, 125, 126, 127, 128, 129, 130, 131, 132, 133, 134, 135, 136, 137, 138, 139, 140] ?_
                  refine aw_false rfl ?_
                  refine aw_skip ?_
                  show AW _ _ _ _ _ _ _
                  refine aw_region ?_
                  refine sr_mv ?_
                  refine sr_rd (x_add' rfl rfl (i64w (by omega) (by omega))) ?_
                  refine sr_as ?_
                  refine sr_nil ?_
                  show AW _ _ _ _ _ _ _
                  refine aw_region ?_
                  refine sr_mv ?_
                  refine sr_rd (x_add' rfl rfl (i64w (by omega) (by omega))) ?_
                  refine sr_as ?_
                  refine sr_nil ?_
                  show ∃ s', _ ∧ _ ∧ _ ∧ _
                  exact ⟨(i + 1, k + 1), ⟨by dsimp only; omega, hup2⟩, by dsimp only; omega, KeepF.auto, Sub.autoP⟩
                · refine sr_ry (x_not rfl) ?_
                  refine sr_rd (x_pick_t rfl rfl rfl) ?_
                  refine sr_nil ?_
                  refine aw_kp [3, 8, 11, 14, 15, 16, 17, 18, 102, 103, 104, 105, 118, 119, 120, 121, 122, 123, 124, 125, 126, 127, 128] ?_
                  refine aw_false rfl ?_
                  refine aw_skip ?_
                  show AW _ _ _ _ _ _ _
                  refine aw_region ?_
                  refine sr_mv ?_
                  refine sr_rd (x_add' rfl rfl (i64w (by omega) (by omega))) ?_
                  refine sr_as ?_
                  refine sr_nil ?_
                  show ∃ s', _ ∧ _ ∧ _ ∧ _
                  exact ⟨(i + 1, k), ⟨by dsimp only; omega, hup.no (fun q9 => ((hZm _).1 q9).2 (of_decide_eq_true hd2))⟩, by dsimp only; omega, KeepF.auto, Sub.autoP⟩
          · refine sr_nil ?_
            refine aw_kp [3, 8, 11, 14, 15, 16, 98, 99] ?_
            refine aw_false rfl ?_
            refine aw_exit ?_
            show AW _ _ _ _ _ _ _
            refine aw_seq_region ?_
            obtain rfl : i = 256 := by omega
            have hkz := hup.fin (fun z hz => by have := hZr z hz; omega)
            refine sr_mv ?_
            refine sr_mv ?_
            refine sr_rd (x_lenSlice Try.underlying134 rfl) ?_
            refine sr_c (x_eq rfl rfl) (fun h19 => ?_) (fun h19 => absurd (by first | omega | decide) h19)
            refine sr_mv ?_
            refine sr_d rfl (wtd_yes rfl rfl rfl) rfl (opS_call rfl rfl rfl rfl cl28 (awake33_s _)) ?_
            rintro _ _ ⟨rfl, rfl⟩
            refine sr_rd (x_pick_t rfl rfl rfl) ?_
            refine sr_as ?_
            refine sr_nil ?_
            refine aw_kp [8] ?_
            refine aw_ret ?_
            show ∃ v H2, ResV _ _ _ _ _ _ v ∧ Sub H2 _ ∧ _
            exact ⟨_, [], resV rfl (.cons rfl .nil), (Sub.nil _), rfl⟩
      · refine dr_l (x_move rfl) ?_
        refine dr_sk ?_
        refine dr_sk ?_
        refine dr_sk ?_
        refine dr_sk ?_
        refine dr_sk ?_
        refine dr_sk ?_
        refine dr_sk ?_
        refine dr_sk ?_
        refine dr_sk ?_
        refine dr_sk ?_
        refine dr_sk ?_
        refine dr_sk ?_
        refine dr_sk ?_
        refine dr_sk ?_
        refine dr_sk ?_
        refine dr_l (x_pick_f rfl rfl rfl) ?_
        refine dr_nil0 ?_
        refine aw_kp [3, 6, 8, 10, 11, 13, 88] ?_
        refine aw_false rfl ?_
        refine aw_skip ?_
        show AW _ _ _ _ _ _ _
        refine aw_seq ?_
        refine aw_seq_region ?_
        refine sr_mv ?_
        refine sr_rd (x_loadN ag36 sz36 rfl (cells_ext mauto Ext.auto) rfl) ?_
        refine sr_mv ?_
        refine sr_d rfl (wtd_none rfl) rfl (opS_call rfl rfl rfl rfl cl92 (qcheck_s g9 m9 all _ (cells_ext mauto Ext.auto) r a cap xs es clk f h (map_at mauto) hG (hs _) (by omega))) ?_
        rintro _ _ ⟨rfl, rfl⟩
        refine sr_mv ?_
        refine sr_c (x_ne rfl rfl) (fun h20 => absurd h20 (by exact fun h9 => h9 (by unfold checkE; first | (rw [if_pos (by omega)]; done) | (rw [if_neg (by omega), if_pos (nd_f (by assumption))]; done) | (rw [if_neg (by omega), if_neg (nd_t (by assumption))]; done)))) (fun h20 => ?_)
        refine sr_nil ?_
        refine aw_kp [3, 8, 10, 11, 94] ?_
        refine aw_false rfl ?_
        refine aw_skip ?_
        show AW _ _ _ _ _ _ _
        refine aw_seq_region ?_
        refine sr_mv ?_
        refine sr_mv ?_
        refine sr_d rfl (wtd_none rfl) rfl (opS_call rfl rfl rfl rfl cl93 (qover_s g9 m9 all es clk f h (pl p all f h :: ((r0_1, .cells r.cells.toArray 36 (0, 0)) :: (r0_0, .cells all.cells.toArray 24 (0, 0)) :: [])) hG a cap xs hs hx40)) ?_
        rintro _ _ ⟨Z, a6, c6, E6, rfl, hZ, hZm, V6, rfl⟩
        have hV6 := V6.slv' (W0 := W0) (xs := Z) (fun _ => rfl) rfl (Sub.refl _)
        have hle6 := hV6.le
        have hcb6 := hV6.capb
        have hZr : ∀ z ∈ Z, 0 ≤ z ∧ z ≤ 255 := fun z hz => by obtain ⟨⟨j, hj, rfl⟩, _⟩ := (hZm z).1 hz; exact hrg j hj
        refine sr_as ?_
        refine sr_nil ?_
        refine aw_kp [3, 8, 11, 14] ?_
        refine aw_seq_region ?_
        refine sr_as ?_
        refine sr_nil ?_
        refine aw_kp [3, 8, 11, 14, 15] ?_
        refine aw_seq ?_
        refine aw_seq_region ?_
        refine sr_as ?_
        refine sr_nil ?_
        refine aw_kp [3, 8, 11, 14, 15, 16] ?_
        refine aw_block ?_
        refine aw_loop (ι := Nat × Nat) (fun s => s.1 ≤ 256 ∧ UpTo Z s.1 s.2) (fun s => [(3, .slice a xs.length cap), (8, .bool false), (11, .pointer (some ⟨p, 0, none⟩)), (14, .slice a6 Z.length c6), (15, .int .i64 (s.2 : Nat)), (16, .int .i64 (s.1 : Nat))]) (fun _ => E6 ++ (gate g9 all m9 :: gmap m9 es clk :: pl p all f h :: ((r0_1, .cells r.cells.toArray 36 (0, 0)) :: (r0_0, .cells all.cells.toArray 24 (0, 0)) :: []))) (fun s => 256 - s.1) (0, 0) (⟨Nat.zero_le _, UpTo.zero (fun z hz => (hZr z hz).1)⟩) KeepF.auto Sub.autoP ?_
        intro s hs9
        obtain ⟨i, k⟩ := s
        dsimp only at hs9 ⊢
        obtain ⟨hi, hup⟩ := hs9
        have hukl := hup.1
        refine aw_seq ?_
        refine aw_seq_region ?_
        refine sr_mv ?_
        refine sr_c (x_lt rfl rfl) (fun h21 => ?_) (fun h21 => ?_)
        · refine sr_nil ?_
          refine aw_kp [3, 8, 11, 14, 15, 16, 98, 99] ?_
          refine aw_true rfl ?_
          refine aw_skip ?_
          show AW _ _ _ _ _ _ _
          refine aw_seq ?_
          refine aw_block ?_
          refine aw_seq_region ?_
          refine sr_as ?_
          refine sr_nil ?_
          refine aw_kp [3, 8, 11, 14, 15, 16, 17, 98, 99] ?_
          refine aw_seq ?_
          refine aw_seq_region ?_
          refine sr_as ?_
          refine sr_nil ?_
          refine aw_kp [3, 8, 11, 14, 15, 16, 17, 18, 98, 99] ?_
          refine aw_block ?_
          refine aw_loop (ι := Nat × Bool) (fun t => t.1 ≤ xs.length ∧ t.2 = anyU xs t.1 (i : Int)) (fun t => [(3, .slice a xs.length cap), (8, .bool false), (11, .pointer (some ⟨p, 0, none⟩)), (14, .slice a6 Z.length c6), (15, .int .i64 (k : Nat)), (16, .int .i64 (i : Nat)), (17, .bool t.2), (18, .int .i64 (t.1 : Nat))]) (fun _ => E6 ++ (gate g9 all m9 :: gmap m9 es clk :: pl p all f h :: ((r0_1, .cells r.cells.toArray 36 (0, 0)) :: (r0_0, .cells all.cells.toArray 24 (0, 0)) :: []))) (fun t => xs.length - t.1) (0, false) (⟨Nat.zero_le _, rfl⟩) KeepF.auto Sub.autoP ?_
          intro t ht9
          obtain ⟨q, b⟩ := t
          dsimp only at ht9 ⊢
          obtain ⟨hq, hb⟩ := ht9
          refine aw_seq ?_
          refine aw_seq_region ?_
          refine sr_mv ?_
          refine sr_mv ?_
          refine sr_rd (x_lenSlice Try.underlying22 rfl) ?_
          refine sr_c (x_lt rfl rfl) (fun h22 => ?_) (fun h22 => ?_)
          · refine sr_nil ?_
            refine aw_kp [3, 8, 11, 14, 15, 16, 17, 18, 102, 103, 104, 105] ?_
            refine aw_true rfl ?_
            refine aw_skip ?_
            show AW _ _ _ _ _ _ _
            refine aw_seq ?_
            refine aw_block ?_
            refine aw_region ?_
            cases b
            · refine sr_mv ?_
              refine sr_mv ?_
              obtain ⟨j, hj⟩ := get_ex (show q < xs.length by omega)
              obtain ⟨bj, oj, haj, hcj⟩ := (hs []).at_ q _ hj
              refine sr_ry (x_move rfl) ?_
              refine sr_ry (x_move rfl) ?_
              refine sr_ry (x_indexAddrN (q) Try.underlying22 sz91 rfl haj rfl (by omega) (by omega)) ?_
              refine sr_ry (x_fieldAddr fd91_1 rfl) ?_
              refine sr_ry (x_load ag3 rfl (cells_get (Cells.mono hcj (Sub.nil _)) 1 rfl)) ?_
              refine sr_ry (x_move rfl) ?_
              refine sr_cy (x_eq rfl rfl) (fun h23 => ?_) (fun h23 => ?_)
              · refine sr_rd (x_pick_f rfl rfl rfl) ?_
                refine sr_as ?_
                refine sr_nil ?_
                show AW _ _ _ _ _ _ _
                refine aw_region ?_
                refine sr_mv ?_
                refine sr_rd (x_add' rfl rfl (i64w (by omega) (by omega))) ?_
                refine sr_as ?_
                refine sr_nil ?_
                show ∃ s', _ ∧ _ ∧ _ ∧ _
                first | exact ⟨(q + 1, true), ⟨by dsimp only; omega, (by dsimp only; rw [anyU_s hj]; first | (rw [← hb]; rfl) | (rw [decide_eq_true (by omega), Bool.or_true]))⟩, by dsimp only; omega, KeepF.auto, Sub.autoD⟩ | exact ⟨(q + 1, false), ⟨by dsimp only; omega, (by dsimp only; rw [anyU_s hj, ← hb, decide_eq_false (by omega)]; rfl)⟩, by dsimp only; omega, KeepF.auto, Sub.autoD⟩
              · refine sr_rd (x_pick_f rfl rfl rfl) ?_
                refine sr_as ?_
                refine sr_nil ?_
                show AW _ _ _ _ _ _ _
                refine aw_region ?_
                refine sr_mv ?_
                refine sr_rd (x_add' rfl rfl (i64w (by omega) (by omega))) ?_
                refine sr_as ?_
                refine sr_nil ?_
                show ∃ s', _ ∧ _ ∧ _ ∧ _
                first | exact ⟨(q + 1, true), ⟨by dsimp only; omega, (by dsimp only; rw [anyU_s hj]; first | (rw [← hb]; rfl) | (rw [decide_eq_true (by omega), Bool.or_true]))⟩, by dsimp only; omega, KeepF.auto, Sub.autoD⟩ | exact ⟨(q + 1, false), ⟨by dsimp only; omega, (by dsimp only; rw [anyU_s hj, ← hb, decide_eq_false (by omega)]; rfl)⟩, by dsimp only; omega, KeepF.auto, Sub.autoD⟩
            · refine sr_mv ?_
              refine sr_mv ?_
              obtain ⟨j, hj⟩ := get_ex (show q < xs.length by omega)
              obtain ⟨bj, oj, haj, hcj⟩ := (hs []).at_ q _ hj
              refine sr_sk ?_
              refine sr_sk ?_
              refine sr_sk ?_
              refine sr_sk ?_
              refine sr_sk ?_
              refine sr_sk ?_
              refine sr_sk ?_
              refine sr_rd (x_pick_t rfl rfl rfl) ?_
              refine sr_as ?_
              refine sr_nil ?_
              show AW _ _ _ _ _ _ _
              refine aw_region ?_
              refine sr_mv ?_
              refine sr_rd (x_add' rfl rfl (i64w (by omega) (by omega))) ?_
              refine sr_as ?_
              refine sr_nil ?_
              show ∃ s', _ ∧ _ ∧ _ ∧ _
              first | exact ⟨(q + 1, true), ⟨by dsimp only; omega, (by dsimp only; rw [anyU_s hj]; first | (rw [← hb]; rfl) | (rw [decide_eq_true (by omega), Bool.or_true]))⟩, by dsimp only; omega, KeepF.auto, Sub.autoD⟩ | exact ⟨(q + 1, false), ⟨by dsimp only; omega, (by dsimp only; rw [anyU_s hj, ← hb, decide_eq_false (by omega)]; rfl)⟩, by dsimp only; omega, KeepF.auto, Sub.autoD⟩
          · refine sr_nil ?_
            refine aw_kp [3, 8, 11, 14, 15, 16, 17, 18, 102, 103, 104, 105] ?_
            refine aw_false rfl ?_
            refine aw_exit ?_
            show AW _ _ _ _ _ _ _
            refine aw_seq_region ?_
            cases b
            · refine sr_mv ?_
              refine sr_mv ?_
              refine sr_sk ?_
              refine sr_sk ?_
              refine sr_sk ?_
              refine sr_sk ?_
              refine sr_sk ?_
              refine sr_sk ?_
              refine sr_sk ?_
              refine sr_sk ?_
              refine sr_rd (x_pick_f rfl rfl rfl) ?_
              refine sr_nil ?_
              refine aw_kp [3, 8, 11, 14, 15, 16, 17, 18, 102, 103, 104, 105, 118, 119, 120, 121, 122, 123, 124, 125, 126, 127, 128] ?_
              refine aw_false rfl ?_
              refine aw_skip ?_
              show AW _ _ _ _ _ _ _
              refine aw_region ?_
              refine sr_mv ?_
              refine sr_rd (x_add' rfl rfl (i64w (by omega) (by omega))) ?_
              refine sr_as ?_
              refine sr_nil ?_
              show ∃ s', _ ∧ _ ∧ _ ∧ _
              exact ⟨(i + 1, k), ⟨by dsimp only; omega, hup.no (fun q9 => anyU_n hb (by omega) ((hZm _).1 q9).1)⟩, by dsimp only; omega, KeepF.auto, Sub.autoP⟩
            · refine sr_mv ?_
              refine sr_mv ?_
              refine sr_ry (x_move rfl) ?_
              refine sr_ry (x_move rfl) ?_
              refine sr_d rfl (wtd_yes rfl rfl rfl) rfl (opS_call rfl rfl rfl rfl cl21 (of21_s (i : Int) a cap xs _ (hs _) (by omega))) ?_
              rintro _ _ ⟨rfl, rfl⟩
              refine sr_ry (x_move rfl) ?_
              refine sr_ry (x_move rfl) ?_
              refine sr_d rfl (wtd_yes rfl rfl rfl) rfl (opS_call rfl rfl rfl rfl cl90 (pof_s p all f h (i : Int) _ mauto)) ?_
              rintro _ _ ⟨rfl, rfl⟩
              refine sr_d rfl (wtd_yes rfl rfl rfl) rfl (opS_call rfl rfl rfl rfl cl27 (within27_s _ _ _)) ?_
              rintro _ _ ⟨rfl, rfl⟩
              generalize hd2 : decide (WithinP (useOf (i : Int) xs) (limU all f h (i : Int))) = d2
              cases d2
              · refine sr_ry (x_not rfl) ?_
                refine sr_rd (x_pick_t rfl rfl rfl) ?_
                refine sr_nil ?_
                refine aw_kp [3, 8, 11, 14, 15, 16, 17, 18, 102, 103, 104, 105, 118, 119, 120, 121, 122, 123, 124, 125, 126, 127, 128] ?_
                refine aw_true rfl ?_
                refine aw_seq ?_
                refine aw_seq_region ?_
                obtain ⟨hz, hup2⟩ := hup.yes hZ ((hZm _).2 ⟨anyU_y hb (by omega), of_decide_eq_false hd2⟩)
                have hkl := get_lt hz
                obtain ⟨bz, oz, hax, hcz⟩ := hV6.at_ k _ hz
                refine sr_mv ?_
                refine sr_mv ?_
                refine sr_rd (x_lenSlice Try.underlying134 rfl) ?_
                refine sr_c (x_ge rfl rfl) (fun h24 => absurd h24 (by first | omega | decide)) (fun h24 => ?_)
                refine sr_mv ?_
                refine sr_ry (x_move rfl) ?_
                refine sr_ry (x_move rfl) ?_
                refine sr_ry (x_indexAddrN k Try.underlying134 sz3 rfl hax rfl (by omega) (by omega)) ?_
                refine sr_ry (x_load ag3 rfl (Cells.mono hcz Sub.autoE)) ?_
                refine sr_ry (x_move rfl) ?_
                refine sr_cy (x_ne rfl rfl) (fun h25 => absurd h25 (by exact fun h9 => h9 rfl)) (fun h25 => ?_)
                refine sr_rd (x_pick_f rfl rfl rfl) ?_
                refine sr_nil ?_
                refine aw_kp [3, 8, 11, 14, 15, 16, 17, 18, 102, 103, 104, 105, 118, 119, 120, 121, 122, 123, 124, 125, 126, 127, 128, 129, 130, 131, 132, 133, 134, 135, 136, 137, 138, 139, 140] ?_
                refine aw_false rfl ?_
                refine aw_skip ?_
                show AW _ _ _ _ _ _ _
                refine aw_region ?_
                refine sr_mv ?_
                refine sr_rd (x_add' rfl rfl (i64w (by omega) (by omega))) ?_
                refine sr_as ?_
                refine sr_nil ?_
                show AW _ _ _ _ _ _ _
                refine aw_region ?_
                refine sr_mv ?_
                refine sr_rd (x_add' rfl rfl (i64w (by omega) (by omega))) ?_
                refine sr_as ?_
                refine sr_nil ?_
                show ∃ s', _ ∧ _ ∧ _ ∧ _
                exact ⟨(i + 1, k + 1), ⟨by dsimp only; omega, hup2⟩, by dsimp only; omega, KeepF.auto, Sub.autoP⟩
              · refine sr_ry (x_not rfl) ?_
                refine sr_rd (x_pick_t rfl rfl rfl) ?_
                refine sr_nil ?_
                refine aw_kp [3, 8, 11, 14, 15, 16, 17, 18, 102, 103, 104, 105, 118, 119, 120, 121, 122, 123, 124, 125, 126, 127, 128] ?_
                refine aw_false rfl ?_
                refine aw_skip ?_
                show AW _ _ _ _ _ _ _
                refine aw_region ?_
                refine sr_mv ?_
                refine sr_rd (x_add' rfl rfl (i64w (by omega) (by omega))) ?_
                refine sr_as ?_
                refine sr_nil ?_
                show ∃ s', _ ∧ _ ∧ _ ∧ _
                exact ⟨(i + 1, k), ⟨by dsimp only; omega, hup.no (fun q9 => ((hZm _).1 q9).2 (of_decide_eq_true hd2))⟩, by dsimp only; omega, KeepF.auto, Sub.autoP⟩
        · refine sr_nil ?_
          refine aw_kp [3, 8, 11, 14, 15, 16, 98, 99] ?_
          refine aw_false rfl ?_
          refine aw_exit ?_
          show AW _ _ _ _ _ _ _
          refine aw_seq_region ?_
          obtain rfl : i = 256 := by omega
          have hkz := hup.fin (fun z hz => by have := hZr z hz; omega)
          refine sr_mv ?_
          refine sr_mv ?_
          refine sr_rd (x_lenSlice Try.underlying134 rfl) ?_
          refine sr_c (x_eq rfl rfl) (fun h26 => ?_) (fun h26 => absurd (by first | omega | decide) h26)
          refine sr_mv ?_
          refine sr_d rfl (wtd_yes rfl rfl rfl) rfl (opS_call rfl rfl rfl rfl cl28 (awake33_s _)) ?_
          rintro _ _ ⟨rfl, rfl⟩
          refine sr_rd (x_pick_t rfl rfl rfl) ?_
          refine sr_as ?_
          refine sr_nil ?_
          refine aw_kp [8] ?_
          refine aw_ret ?_
          show ∃ v H2, ResV _ _ _ _ _ _ v ∧ Sub H2 _ ∧ _
          exact ⟨_, [], resV rfl (.cons rfl .nil), (Sub.nil _), rfl⟩
end
namespace QuotaChecksRow
open Go.ChangeShapes Go.WideShapes Go.ChangeAt Go.RowKit
theorem own : ownKnob Try.prog.godebug = none := by kernel_rfl
theorem laid : laidOutB Try.prog = true := by kernel_rfl
set_option maxRecDepth 100000 in
theorem lifted (os : Os) (started : os.Started) (H : Type) (enc : TypeId × Value → H) :
    ReturnsInHanded {} Try.checked os 17 .any (Rows.quotaChecksSpec.pre6 enc Try.prog Try.f17 Rows.quotaChecksRow.domain false) (Rows.quotaChecksSpec.post enc Try.prog Try.f17 false true false false) := by
  refine law_lifted (C := Try.checked) (tb := 4) own started (by kernel_rfl) Try.func17 (ChangeSpec.witness6 (enc := enc) (C := Try.checked) false ⟨#[], #[.agg #[.int .i64 0, .int .i64 0, .int .i64 0], .slice none 0 0, .agg #[.int .i64 0, .int .i64 0, .int .i64 0, .int .i64 0, .int .i64 0, .int .i64 0, .bool false, .int .i64 0, .int .i64 0], .slice none 0 0], []⟩ 8 (by kernel_rfl) (by kernel_rfl) (by kernel_rfl) (by kernel_rfl)) rfl Try.underlying4 rfl laid (by kernel_rfl) ?_ ?_
  · intro ds h
    match ds, h with
    | [a0, a1, a2, a3], _ => rfl
  · intro W base args ds ps hval hA hlt hsz
    have hA' : DataW.TrodAll enc Try.prog W 0 (fun _ => true) true [24, 143, 36, 22] args ds ps := hA
    clear hA
    obtain ⟨v0, vs0, d0, ds0, p0, q0, rfl, rfl, rfl, h0, r0⟩ := trodAll_cons hA'
    obtain ⟨v1, vs1, d1, ds1, p1, q1, rfl, rfl, rfl, h1, r1⟩ := trodAll_cons r0
    obtain ⟨v2, vs2, d2, ds2, p2, q2, rfl, rfl, rfl, h2, r2⟩ := trodAll_cons r1
    obtain ⟨v3, vs3, d3, ds3, p3, q3, rfl, rfl, rfl, h3, r3⟩ := trodAll_cons r2
    obtain ⟨rfl, rfl, rfl⟩ := trodAll_nil r3
    obtain ⟨all, rfl, _⟩ := open_QLimit (hval 0 24 v0 rfl rfl) h0
    obtain ⟨sa, scap, ops, rfl, hso, _⟩ := opn_slice Try.underlying143 cells194 (by decide) (fun fuel cs x h => read_QOp h) (hval 1 143 v1 rfl rfl) h1
    obtain ⟨r, rfl, _⟩ := open_Request (hval 2 36 v2 rfl rfl) h2
    obtain ⟨a, cap, xs, rfl, hs, _⟩ := opn_slice Try.underlying22 cells91 (by decide) (fun fuel cs x h => read_Job h) (hval 3 22 v3 rfl rfl) h3
    exact quotaChecks_s all sa scap ops hso r a cap xs hs
theorem joined : joinedFacts Try.prog 17 Try.f17 Rows.quotaChecksSpec Rows.quotaChecksRow = true := by
  unfold joinedFacts
  rw [cutMay, cutLif, cutMk]
  kernel_rfl
theorem over : Rows.quotaChecksRow.holds Try.pinned (OpenSpec.ofChange Rows.quotaChecksSpec) :=
  OpenClaim.holds_of_wide 17 Try.f17 rfl rfl rfl rfl rfl rfl rfl ⟨rfl, rfl, rfl, rfl, rfl⟩ rfl rfl rfl rfl rfl (by kernel_rfl) Try.func17 joined
    (of_decide_eq_true (by kernel_rfl)) (by unfold Func.isWrapper; first | (rw [if_pos (by decide +kernel)]; kernel_rfl) | (rw [if_neg (by decide +kernel)]; exact ⟨rfl, rfl⟩))
    (fun os started H enc _ => lifted os started H enc)
theorem proved : Rows.QuotaChecksSaid := over
#print axioms proved
end QuotaChecksRow
end Go.Proofs.Yteilocpjikmmdaa
