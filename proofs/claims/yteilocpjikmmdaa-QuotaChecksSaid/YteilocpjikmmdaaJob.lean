/- Jobs: what the functions of job come to, for any table. -/
import Derived.Test.YteilocpjikmmdaaProg
import Derived.Test.YteilocpjikmmdaaSymApp
namespace Go.Proofs.Yteilocpjikmmdaa
open Go.Proofs.Yteilocpjikmmdaa.Sym
open Go.RowKit (Below)
set_option linter.unusedVariables false
set_option linter.unusedSimpArgs false
structure Job where
  id : Int
  user : Int
  width : Int
  limit : Int
  prio : Int
  state : Int
  start : Int
  fin : Int
  plan : Int
  nodes : Int
@[reducible] def Job.cells (j : Job) : List Value := [.int .i64 j.id, .int .i64 j.user, .int .i64 j.width, .int .i64 j.limit, .int .i64 j.prio, .int .i64 j.state, .int .i64 j.start, .int .i64 j.fin, .int .i64 j.plan, .int .u64 j.nodes]
@[reducible] def Job.v (j : Job) : Value := .agg (Job.cells j).toArray
def Job.Wf (j : Job) : Prop := IntKind.min .i64 ≤ j.id ∧ j.id ≤ IntKind.max .i64 ∧ IntKind.min .i64 ≤ j.user ∧ j.user ≤ IntKind.max .i64 ∧ IntKind.min .i64 ≤ j.width ∧ j.width ≤ IntKind.max .i64 ∧ IntKind.min .i64 ≤ j.limit ∧ j.limit ≤ IntKind.max .i64 ∧ IntKind.min .i64 ≤ j.prio ∧ j.prio ≤ IntKind.max .i64 ∧ IntKind.min .i64 ≤ j.state ∧ j.state ≤ IntKind.max .i64 ∧ IntKind.min .i64 ≤ j.start ∧ j.start ≤ IntKind.max .i64 ∧ IntKind.min .i64 ≤ j.fin ∧ j.fin ≤ IntKind.max .i64 ∧ IntKind.min .i64 ≤ j.plan ∧ j.plan ≤ IntKind.max .i64 ∧ IntKind.min .u64 ≤ j.nodes ∧ j.nodes ≤ IntKind.max .u64
structure Request where
  kind : Int
  id : Int
  user : Int
  width : Int
  limit : Int
  prio : Int
  held : Bool
  node : Int
  by_ : Int
@[reducible] def Request.cells (j : Request) : List Value := [.int .i64 j.kind, .int .i64 j.id, .int .i64 j.user, .int .i64 j.width, .int .i64 j.limit, .int .i64 j.prio, .bool j.held, .int .i64 j.node, .int .i64 j.by_]
@[reducible] def Request.v (j : Request) : Value := .agg (Request.cells j).toArray
def Request.Wf (j : Request) : Prop := IntKind.min .i64 ≤ j.kind ∧ j.kind ≤ IntKind.max .i64 ∧ IntKind.min .i64 ≤ j.id ∧ j.id ≤ IntKind.max .i64 ∧ IntKind.min .i64 ≤ j.user ∧ j.user ≤ IntKind.max .i64 ∧ IntKind.min .i64 ≤ j.width ∧ j.width ≤ IntKind.max .i64 ∧ IntKind.min .i64 ≤ j.limit ∧ j.limit ≤ IntKind.max .i64 ∧ IntKind.min .i64 ≤ j.prio ∧ j.prio ≤ IntKind.max .i64 ∧ IntKind.min .i64 ≤ j.node ∧ j.node ≤ IntKind.max .i64 ∧ IntKind.min .i64 ≤ j.by_ ∧ j.by_ ≤ IntKind.max .i64
def rightE (r : Request) : Int :=
  if r.user < 0 ∨ 255 < r.user ∨ r.prio < 0 ∨ 1000 < r.prio then 1 else if r.width < 1 ∨ 64 < r.width then 9 else if r.limit < 1 ∨ 1048576 < r.limit then 10 else 0
def newJob (n : Nat) (r : Request) : Job := ⟨n + 1, r.user, r.width, r.limit, r.prio, if r.held = true then 2 else 1, -1, -1, -1, 0⟩
@[reducible] def tabC (sl : Value) (live : Int) : List Value := [sl, .int .i64 live, .bool true]
@[reducible] def tab (p : Nat) (sl : Value) (live : Int) : Nat × Obj := (p, .cells (tabC sl live).toArray 168 (0, 0))
theorem app_job {jobs : List Job} {j : Job} {c : List Value} (h : c = j.cells) : jobs.flatMap Job.cells ++ c = (jobs ++ [j]).flatMap Job.cells := by subst h; simp [List.flatMap_append]
theorem ag2 : aggOf Try.prog 2 = some false := by kernel_rfl
theorem ag22 : aggOf Try.prog 22 = some false := by kernel_rfl
theorem ag3 : aggOf Try.prog 3 = some false := by kernel_rfl
theorem ag36 : aggOf Try.prog 36 = some true := by kernel_rfl
theorem ag4 : aggOf Try.prog 4 = some false := by kernel_rfl
theorem ag91 : aggOf Try.prog 91 = some true := by kernel_rfl
theorem by91 : bytesOf Try.prog 91 = some 80 := by kernel_rfl
theorem cells2 : Try.prog.cellsOf 2 = 1 := by kernel_rfl
theorem cells3 : Try.prog.cellsOf 3 = 1 := by kernel_rfl
theorem cells36 : Try.prog.cellsOf 36 = 9 := by kernel_rfl
theorem cells4 : Try.prog.cellsOf 4 = 1 := by kernel_rfl
theorem cells51 : Try.prog.cellsOf 51 = 1 := by kernel_rfl
theorem cells91 : Try.prog.cellsOf 91 = 10 := by kernel_rfl
theorem cl121 : Callable Try.prog 121 := ⟨Try.f121, Try.func121, by kernel_rfl, by kernel_rfl⟩
theorem cl141 : Callable Try.prog 141 := ⟨Try.f141, Try.func141, by kernel_rfl, by kernel_rfl⟩
theorem cl29 : Callable Try.prog 29 := ⟨Try.f29, Try.func29, by kernel_rfl, by kernel_rfl⟩
theorem cl77 : Callable Try.prog 77 := ⟨Try.f77, Try.func77, by kernel_rfl, by kernel_rfl⟩
theorem cl99 : Callable Try.prog 99 := ⟨Try.f99, Try.func99, by kernel_rfl, by kernel_rfl⟩
theorem fd168_0 : fldOf Try.prog 168 0 = some (0, 22, 1) := by kernel_rfl
theorem fd168_1 : fldOf Try.prog 168 1 = some (1, 3, 1) := by kernel_rfl
theorem fd168_2 : fldOf Try.prog 168 2 = some (2, 4, 1) := by kernel_rfl
theorem fd36_2 : fldOf Try.prog 36 2 = some (2, 3, 1) := by kernel_rfl
theorem fd36_3 : fldOf Try.prog 36 3 = some (3, 3, 1) := by kernel_rfl
theorem fd36_4 : fldOf Try.prog 36 4 = some (4, 2, 1) := by kernel_rfl
theorem fd36_5 : fldOf Try.prog 36 5 = some (5, 3, 1) := by kernel_rfl
theorem fd36_6 : fldOf Try.prog 36 6 = some (6, 4, 1) := by kernel_rfl
theorem fd91_0 : fldOf Try.prog 91 0 = some (0, 3, 1) := by kernel_rfl
theorem fd91_5 : fldOf Try.prog 91 5 = some (5, 3, 1) := by kernel_rfl
theorem fl168 : flds Try.prog 168 = some [(0, 1), (1, 1), (2, 1)] := by kernel_rfl
theorem fl91 : flds Try.prog 91 = some [(0, 1), (1, 1), (2, 1), (3, 1), (4, 1), (5, 1), (6, 1), (7, 1), (8, 1), (9, 1)] := by kernel_rfl
theorem mix : Try.prog.follows .mixedOrders = true := by kernel_rfl
theorem sz22 : szOf Try.prog 22 = some 1 := by kernel_rfl
theorem sz3 : szOf Try.prog 3 = some 1 := by kernel_rfl
theorem sz36 : szOf Try.prog 36 = some 9 := by kernel_rfl
theorem sz91 : szOf Try.prog 91 = some 10 := by kernel_rfl
theorem zr168 : zeroOf Try.prog 168 = some (.agg #[.slice none 0 0, .int .i64 0, .bool false]) := by kernel_rfl
theorem zr91 : zeroOf Try.prog 91 = some (.agg #[.int .i64 0, .int .i64 0, .int .i64 0, .int .i64 0, .int .i64 0, .int .i64 0, .int .i64 0, .int .i64 0, .int .i64 0, .int .u64 0]) := by kernel_rfl
section
variable {W0 : World}
set_option maxRecDepth 100000 in
set_option maxHeartbeats 400000 in
theorem right29_s (r : Request) (H : SHeap) : AC Try.prog W0 29 [r.v] H (fun v H' => v = .int .i64 (rightE r) ∧ H' = H) := by
  refine ac_of Try.func29 rfl rfl rfl ?_
  refine aw_seq_region ?_
  refine sr_new rfl (wtd_none rfl) rfl (x_box rfl rfl) ?_
  intro r0_0 hr0_0 gr0_0
  refine sr_x rfl (wtd_none rfl) rfl (Rd.x (x_assign rfl)) ?_
  refine sr_nil ?_
  refine aw_keep (keep_cons (t := 1) rfl (keep_cons (t := 2) rfl keep_nil)) ?_
  refine aw_seq ?_
  refine aw_block ?_
  refine aw_seq_region ?_
  refine sr_x rfl (wtd_none rfl) rfl (Rd.x (x_fieldAddr fd36_2 rfl)) ?_
  refine sr_x rfl (wtd_none rfl) rfl (Rd.x (x_load ag3 rfl (cells_ext (by repeat (first | exact List.mem_cons_self | apply List.mem_cons_of_mem | apply List.mem_append_right)) (by repeat (first | exact Ext.all _ | exact Ext.done | apply Ext.take | apply Ext.skip))))) ?_
  refine sr_cmp rfl (wtd_none rfl) rfl (Rd.x (x_lt rfl rfl)) (fun h1 => ?_) (fun h1 => ?_)
  · refine sr_x rfl (wtd_none rfl) rfl (Rd.x (x_move rfl)) ?_
    refine sr_skip rfl (wtd_no rfl rfl rfl rfl) rfl ?_
    refine sr_skip rfl (wtd_no rfl rfl rfl rfl) rfl ?_
    refine sr_skip rfl (wtd_no rfl rfl rfl rfl) rfl ?_
    refine sr_x rfl (wtd_none rfl) rfl (Rd.x (x_pick_t rfl rfl rfl)) ?_
    refine sr_x rfl (wtd_none rfl) rfl (Rd.x (x_move rfl)) ?_
    refine sr_skip rfl (wtd_no rfl rfl rfl rfl) rfl ?_
    refine sr_skip rfl (wtd_no rfl rfl rfl rfl) rfl ?_
    refine sr_skip rfl (wtd_no rfl rfl rfl rfl) rfl ?_
    refine sr_x rfl (wtd_none rfl) rfl (Rd.x (x_pick_t rfl rfl rfl)) ?_
    refine sr_x rfl (wtd_none rfl) rfl (Rd.x (x_move rfl)) ?_
    refine sr_skip rfl (wtd_no rfl rfl rfl rfl) rfl ?_
    refine sr_skip rfl (wtd_no rfl rfl rfl rfl) rfl ?_
    refine sr_skip rfl (wtd_no rfl rfl rfl rfl) rfl ?_
    refine sr_x rfl (wtd_none rfl) rfl (Rd.x (x_pick_t rfl rfl rfl)) ?_
    refine sr_x rfl (wtd_none rfl) rfl (Rd.x (x_assign rfl)) ?_
    refine sr_nil ?_
    refine aw_keep (keep_cons (t := 1) rfl (keep_cons (t := 2) rfl (keep_cons (t := 3) rfl keep_nil))) ?_
    refine aw_true rfl ?_
    refine aw_seq_region ?_
    refine sr_x rfl (wtd_none rfl) rfl (Rd.x (x_assign rfl)) ?_
    refine sr_nil ?_
    refine aw_keep (keep_cons (t := 2) rfl keep_nil) ?_
    refine aw_ret ?_
    show ∃ v H2, ResV _ _ _ _ _ _ v ∧ Sub H2 _ ∧ _
    exact ⟨_, H, resV rfl (.cons rfl .nil), (by repeat (first | exact Sub.refl _ | apply Sub.drop)), ⟨congrArg (Value.int .i64) (by unfold rightE; (repeat (first | rw [if_pos (by omega)] | rw [if_neg (by omega)]))), rfl⟩⟩
  · refine sr_x rfl (wtd_none rfl) rfl (Rd.x (x_move rfl)) ?_
    refine sr_x rfl (wtd_yes rfl rfl rfl) rfl (Rd.x (x_fieldAddr fd36_2 rfl)) ?_
    refine sr_x rfl (wtd_yes rfl rfl rfl) rfl (Rd.x (x_load ag3 rfl (cells_ext (by repeat (first | exact List.mem_cons_self | apply List.mem_cons_of_mem | apply List.mem_append_right)) (by repeat (first | exact Ext.all _ | exact Ext.done | apply Ext.take | apply Ext.skip))))) ?_
    refine sr_cmp rfl (wtd_yes rfl rfl rfl) rfl (Rd.x (x_gt rfl rfl)) (fun h2 => ?_) (fun h2 => ?_)
    · refine sr_x rfl (wtd_none rfl) rfl (Rd.x (x_pick_f rfl rfl rfl)) ?_
      refine sr_x rfl (wtd_none rfl) rfl (Rd.x (x_move rfl)) ?_
      refine sr_skip rfl (wtd_no rfl rfl rfl rfl) rfl ?_
      refine sr_skip rfl (wtd_no rfl rfl rfl rfl) rfl ?_
      refine sr_skip rfl (wtd_no rfl rfl rfl rfl) rfl ?_
      refine sr_x rfl (wtd_none rfl) rfl (Rd.x (x_pick_t rfl rfl rfl)) ?_
      refine sr_x rfl (wtd_none rfl) rfl (Rd.x (x_move rfl)) ?_
      refine sr_skip rfl (wtd_no rfl rfl rfl rfl) rfl ?_
      refine sr_skip rfl (wtd_no rfl rfl rfl rfl) rfl ?_
      refine sr_skip rfl (wtd_no rfl rfl rfl rfl) rfl ?_
      refine sr_x rfl (wtd_none rfl) rfl (Rd.x (x_pick_t rfl rfl rfl)) ?_
      refine sr_x rfl (wtd_none rfl) rfl (Rd.x (x_assign rfl)) ?_
      refine sr_nil ?_
      refine aw_keep (keep_cons (t := 1) rfl (keep_cons (t := 2) rfl (keep_cons (t := 3) rfl keep_nil))) ?_
      refine aw_true rfl ?_
      refine aw_seq_region ?_
      refine sr_x rfl (wtd_none rfl) rfl (Rd.x (x_assign rfl)) ?_
      refine sr_nil ?_
      refine aw_keep (keep_cons (t := 2) rfl keep_nil) ?_
      refine aw_ret ?_
      show ∃ v H2, ResV _ _ _ _ _ _ v ∧ Sub H2 _ ∧ _
      exact ⟨_, H, resV rfl (.cons rfl .nil), (by repeat (first | exact Sub.refl _ | apply Sub.drop)), ⟨congrArg (Value.int .i64) (by unfold rightE; (repeat (first | rw [if_pos (by omega)] | rw [if_neg (by omega)]))), rfl⟩⟩
    · refine sr_x rfl (wtd_none rfl) rfl (Rd.x (x_pick_f rfl rfl rfl)) ?_
      refine sr_x rfl (wtd_none rfl) rfl (Rd.x (x_move rfl)) ?_
      refine sr_x rfl (wtd_yes rfl rfl rfl) rfl (Rd.x (x_fieldAddr fd36_5 rfl)) ?_
      refine sr_x rfl (wtd_yes rfl rfl rfl) rfl (Rd.x (x_load ag3 rfl (cells_ext (by repeat (first | exact List.mem_cons_self | apply List.mem_cons_of_mem | apply List.mem_append_right)) (by repeat (first | exact Ext.all _ | exact Ext.done | apply Ext.take | apply Ext.skip))))) ?_
      refine sr_cmp rfl (wtd_yes rfl rfl rfl) rfl (Rd.x (x_lt rfl rfl)) (fun h3 => ?_) (fun h3 => ?_)
      · refine sr_x rfl (wtd_none rfl) rfl (Rd.x (x_pick_f rfl rfl rfl)) ?_
        refine sr_x rfl (wtd_none rfl) rfl (Rd.x (x_move rfl)) ?_
        refine sr_skip rfl (wtd_no rfl rfl rfl rfl) rfl ?_
        refine sr_skip rfl (wtd_no rfl rfl rfl rfl) rfl ?_
        refine sr_skip rfl (wtd_no rfl rfl rfl rfl) rfl ?_
        refine sr_x rfl (wtd_none rfl) rfl (Rd.x (x_pick_t rfl rfl rfl)) ?_
        refine sr_x rfl (wtd_none rfl) rfl (Rd.x (x_assign rfl)) ?_
        refine sr_nil ?_
        refine aw_keep (keep_cons (t := 1) rfl (keep_cons (t := 2) rfl (keep_cons (t := 3) rfl keep_nil))) ?_
        refine aw_true rfl ?_
        refine aw_seq_region ?_
        refine sr_x rfl (wtd_none rfl) rfl (Rd.x (x_assign rfl)) ?_
        refine sr_nil ?_
        refine aw_keep (keep_cons (t := 2) rfl keep_nil) ?_
        refine aw_ret ?_
        show ∃ v H2, ResV _ _ _ _ _ _ v ∧ Sub H2 _ ∧ _
        exact ⟨_, H, resV rfl (.cons rfl .nil), (by repeat (first | exact Sub.refl _ | apply Sub.drop)), ⟨congrArg (Value.int .i64) (by unfold rightE; (repeat (first | rw [if_pos (by omega)] | rw [if_neg (by omega)]))), rfl⟩⟩
      · refine sr_x rfl (wtd_none rfl) rfl (Rd.x (x_pick_f rfl rfl rfl)) ?_
        refine sr_x rfl (wtd_none rfl) rfl (Rd.x (x_move rfl)) ?_
        refine sr_x rfl (wtd_yes rfl rfl rfl) rfl (Rd.x (x_fieldAddr fd36_5 rfl)) ?_
        refine sr_x rfl (wtd_yes rfl rfl rfl) rfl (Rd.x (x_load ag3 rfl (cells_ext (by repeat (first | exact List.mem_cons_self | apply List.mem_cons_of_mem | apply List.mem_append_right)) (by repeat (first | exact Ext.all _ | exact Ext.done | apply Ext.take | apply Ext.skip))))) ?_
        refine sr_cmp rfl (wtd_yes rfl rfl rfl) rfl (Rd.x (x_gt rfl rfl)) (fun h4 => ?_) (fun h4 => ?_)
        · refine sr_x rfl (wtd_none rfl) rfl (Rd.x (x_pick_f rfl rfl rfl)) ?_
          refine sr_x rfl (wtd_none rfl) rfl (Rd.x (x_assign rfl)) ?_
          refine sr_nil ?_
          refine aw_keep (keep_cons (t := 1) rfl (keep_cons (t := 2) rfl (keep_cons (t := 3) rfl keep_nil))) ?_
          refine aw_true rfl ?_
          refine aw_seq_region ?_
          refine sr_x rfl (wtd_none rfl) rfl (Rd.x (x_assign rfl)) ?_
          refine sr_nil ?_
          refine aw_keep (keep_cons (t := 2) rfl keep_nil) ?_
          refine aw_ret ?_
          show ∃ v H2, ResV _ _ _ _ _ _ v ∧ Sub H2 _ ∧ _
          exact ⟨_, H, resV rfl (.cons rfl .nil), (by repeat (first | exact Sub.refl _ | apply Sub.drop)), ⟨congrArg (Value.int .i64) (by unfold rightE; (repeat (first | rw [if_pos (by omega)] | rw [if_neg (by omega)]))), rfl⟩⟩
        · refine sr_x rfl (wtd_none rfl) rfl (Rd.x (x_pick_f rfl rfl rfl)) ?_
          refine sr_x rfl (wtd_none rfl) rfl (Rd.x (x_assign rfl)) ?_
          refine sr_nil ?_
          refine aw_keep (keep_cons (t := 1) rfl (keep_cons (t := 2) rfl (keep_cons (t := 3) rfl keep_nil))) ?_
          refine aw_false rfl ?_
          refine aw_seq_region ?_
          refine sr_x rfl (wtd_none rfl) rfl (Rd.x (x_fieldAddr fd36_3 rfl)) ?_
          refine sr_x rfl (wtd_none rfl) rfl (Rd.x (x_load ag3 rfl (cells_ext (by repeat (first | exact List.mem_cons_self | apply List.mem_cons_of_mem | apply List.mem_append_right)) (by repeat (first | exact Ext.all _ | exact Ext.done | apply Ext.take | apply Ext.skip))))) ?_
          refine sr_cmp rfl (wtd_none rfl) rfl (Rd.x (x_lt rfl rfl)) (fun h5 => ?_) (fun h5 => ?_)
          · refine sr_x rfl (wtd_none rfl) rfl (Rd.x (x_move rfl)) ?_
            refine sr_skip rfl (wtd_no rfl rfl rfl rfl) rfl ?_
            refine sr_skip rfl (wtd_no rfl rfl rfl rfl) rfl ?_
            refine sr_skip rfl (wtd_no rfl rfl rfl rfl) rfl ?_
            refine sr_x rfl (wtd_none rfl) rfl (Rd.x (x_pick_t rfl rfl rfl)) ?_
            refine sr_x rfl (wtd_none rfl) rfl (Rd.x (x_assign rfl)) ?_
            refine sr_nil ?_
            refine aw_keep (keep_cons (t := 1) rfl (keep_cons (t := 2) rfl (keep_cons (t := 22) rfl keep_nil))) ?_
            refine aw_true rfl ?_
            refine aw_seq_region ?_
            refine sr_x rfl (wtd_none rfl) rfl (Rd.x (x_assign rfl)) ?_
            refine sr_nil ?_
            refine aw_keep (keep_cons (t := 2) rfl keep_nil) ?_
            refine aw_ret ?_
            show ∃ v H2, ResV _ _ _ _ _ _ v ∧ Sub H2 _ ∧ _
            exact ⟨_, H, resV rfl (.cons rfl .nil), (by repeat (first | exact Sub.refl _ | apply Sub.drop)), ⟨congrArg (Value.int .i64) (by unfold rightE; (repeat (first | rw [if_pos (by omega)] | rw [if_neg (by omega)]))), rfl⟩⟩
          · refine sr_x rfl (wtd_none rfl) rfl (Rd.x (x_move rfl)) ?_
            refine sr_x rfl (wtd_yes rfl rfl rfl) rfl (Rd.x (x_fieldAddr fd36_3 rfl)) ?_
            refine sr_x rfl (wtd_yes rfl rfl rfl) rfl (Rd.x (x_load ag3 rfl (cells_ext (by repeat (first | exact List.mem_cons_self | apply List.mem_cons_of_mem | apply List.mem_append_right)) (by repeat (first | exact Ext.all _ | exact Ext.done | apply Ext.take | apply Ext.skip))))) ?_
            refine sr_cmp rfl (wtd_yes rfl rfl rfl) rfl (Rd.x (x_gt rfl rfl)) (fun h6 => ?_) (fun h6 => ?_)
            · refine sr_x rfl (wtd_none rfl) rfl (Rd.x (x_pick_f rfl rfl rfl)) ?_
              refine sr_x rfl (wtd_none rfl) rfl (Rd.x (x_assign rfl)) ?_
              refine sr_nil ?_
              refine aw_keep (keep_cons (t := 1) rfl (keep_cons (t := 2) rfl (keep_cons (t := 22) rfl keep_nil))) ?_
              refine aw_true rfl ?_
              refine aw_seq_region ?_
              refine sr_x rfl (wtd_none rfl) rfl (Rd.x (x_assign rfl)) ?_
              refine sr_nil ?_
              refine aw_keep (keep_cons (t := 2) rfl keep_nil) ?_
              refine aw_ret ?_
              show ∃ v H2, ResV _ _ _ _ _ _ v ∧ Sub H2 _ ∧ _
              exact ⟨_, H, resV rfl (.cons rfl .nil), (by repeat (first | exact Sub.refl _ | apply Sub.drop)), ⟨congrArg (Value.int .i64) (by unfold rightE; (repeat (first | rw [if_pos (by omega)] | rw [if_neg (by omega)]))), rfl⟩⟩
            · refine sr_x rfl (wtd_none rfl) rfl (Rd.x (x_pick_f rfl rfl rfl)) ?_
              refine sr_x rfl (wtd_none rfl) rfl (Rd.x (x_assign rfl)) ?_
              refine sr_nil ?_
              refine aw_keep (keep_cons (t := 1) rfl (keep_cons (t := 2) rfl (keep_cons (t := 22) rfl keep_nil))) ?_
              refine aw_false rfl ?_
              refine aw_seq_region ?_
              refine sr_x rfl (wtd_none rfl) rfl (Rd.x (x_fieldAddr fd36_4 rfl)) ?_
              refine sr_x rfl (wtd_none rfl) rfl (Rd.x (x_load ag2 rfl (cells_ext (by repeat (first | exact List.mem_cons_self | apply List.mem_cons_of_mem | apply List.mem_append_right)) (by repeat (first | exact Ext.all _ | exact Ext.done | apply Ext.take | apply Ext.skip))))) ?_
              refine sr_cmp rfl (wtd_none rfl) rfl (Rd.x (x_lt rfl rfl)) (fun h7 => ?_) (fun h7 => ?_)
              · refine sr_x rfl (wtd_none rfl) rfl (Rd.x (x_move rfl)) ?_
                refine sr_skip rfl (wtd_no rfl rfl rfl rfl) rfl ?_
                refine sr_skip rfl (wtd_no rfl rfl rfl rfl) rfl ?_
                refine sr_skip rfl (wtd_no rfl rfl rfl rfl) rfl ?_
                refine sr_x rfl (wtd_none rfl) rfl (Rd.x (x_pick_t rfl rfl rfl)) ?_
                refine sr_x rfl (wtd_none rfl) rfl (Rd.x (x_assign rfl)) ?_
                refine sr_nil ?_
                refine aw_keep (keep_cons (t := 2) rfl (keep_cons (t := 31) rfl keep_nil)) ?_
                refine aw_true rfl ?_
                refine aw_seq_region ?_
                refine sr_x rfl (wtd_none rfl) rfl (Rd.x (x_assign rfl)) ?_
                refine sr_nil ?_
                refine aw_keep (keep_cons (t := 2) rfl keep_nil) ?_
                refine aw_ret ?_
                show ∃ v H2, ResV _ _ _ _ _ _ v ∧ Sub H2 _ ∧ _
                exact ⟨_, H, resV rfl (.cons rfl .nil), (by repeat (first | exact Sub.refl _ | apply Sub.drop)), ⟨congrArg (Value.int .i64) (by unfold rightE; (repeat (first | rw [if_pos (by omega)] | rw [if_neg (by omega)]))), rfl⟩⟩
              · refine sr_x rfl (wtd_none rfl) rfl (Rd.x (x_move rfl)) ?_
                refine sr_x rfl (wtd_yes rfl rfl rfl) rfl (Rd.x (x_fieldAddr fd36_4 rfl)) ?_
                refine sr_x rfl (wtd_yes rfl rfl rfl) rfl (Rd.x (x_load ag2 rfl (cells_ext (by repeat (first | exact List.mem_cons_self | apply List.mem_cons_of_mem | apply List.mem_append_right)) (by repeat (first | exact Ext.all _ | exact Ext.done | apply Ext.take | apply Ext.skip))))) ?_
                refine sr_cmp rfl (wtd_yes rfl rfl rfl) rfl (Rd.x (x_gt rfl rfl)) (fun h8 => ?_) (fun h8 => ?_)
                · refine sr_x rfl (wtd_none rfl) rfl (Rd.x (x_pick_f rfl rfl rfl)) ?_
                  refine sr_x rfl (wtd_none rfl) rfl (Rd.x (x_assign rfl)) ?_
                  refine sr_nil ?_
                  refine aw_keep (keep_cons (t := 2) rfl (keep_cons (t := 31) rfl keep_nil)) ?_
                  refine aw_true rfl ?_
                  refine aw_seq_region ?_
                  refine sr_x rfl (wtd_none rfl) rfl (Rd.x (x_assign rfl)) ?_
                  refine sr_nil ?_
                  refine aw_keep (keep_cons (t := 2) rfl keep_nil) ?_
                  refine aw_ret ?_
                  show ∃ v H2, ResV _ _ _ _ _ _ v ∧ Sub H2 _ ∧ _
                  exact ⟨_, H, resV rfl (.cons rfl .nil), (by repeat (first | exact Sub.refl _ | apply Sub.drop)), ⟨congrArg (Value.int .i64) (by unfold rightE; (repeat (first | rw [if_pos (by omega)] | rw [if_neg (by omega)]))), rfl⟩⟩
                · refine sr_x rfl (wtd_none rfl) rfl (Rd.x (x_pick_f rfl rfl rfl)) ?_
                  refine sr_x rfl (wtd_none rfl) rfl (Rd.x (x_assign rfl)) ?_
                  refine sr_nil ?_
                  refine aw_keep (keep_cons (t := 2) rfl (keep_cons (t := 31) rfl keep_nil)) ?_
                  refine aw_false rfl ?_
                  refine aw_skip ?_
                  show AW _ _ _ _ _ _ _
                  refine aw_seq_region ?_
                  refine sr_x rfl (wtd_none rfl) rfl (Rd.x (x_assign rfl)) ?_
                  refine sr_nil ?_
                  refine aw_keep (keep_cons (t := 2) rfl keep_nil) ?_
                  refine aw_ret ?_
                  show ∃ v H2, ResV _ _ _ _ _ _ v ∧ Sub H2 _ ∧ _
                  exact ⟨_, H, resV rfl (.cons rfl .nil), (by repeat (first | exact Sub.refl _ | apply Sub.drop)), ⟨congrArg (Value.int .i64) (by unfold rightE; (repeat (first | rw [if_pos (by omega)] | rw [if_neg (by omega)]))), rfl⟩⟩
set_option maxRecDepth 100000 in
set_option maxHeartbeats 400000 in
theorem right30_s (r : Request) (H : SHeap) : AC Try.prog W0 30 [r.v] H (fun v H' => v = .int .i64 (rightE r) ∧ H' = H) := by
  refine ac_of Try.func30 rfl rfl rfl ?_
  refine aw_seq_region ?_
  refine sr_new rfl (wtd_none rfl) rfl (x_box rfl rfl) ?_
  intro r0_0 hr0_0 gr0_0
  refine sr_x rfl (wtd_none rfl) rfl (Rd.x (x_assign rfl)) ?_
  refine sr_nil ?_
  refine aw_keep (keep_cons (t := 1) rfl (keep_cons (t := 2) rfl keep_nil)) ?_
  refine aw_seq ?_
  refine aw_seq_region ?_
  refine sr_x rfl (wtd_none rfl) rfl (Rd.x (x_fieldAddr fd36_2 rfl)) ?_
  refine sr_x rfl (wtd_none rfl) rfl (Rd.x (x_load ag3 rfl (cells_ext (by repeat (first | exact List.mem_cons_self | apply List.mem_cons_of_mem | apply List.mem_append_right)) (by repeat (first | exact Ext.all _ | exact Ext.done | apply Ext.take | apply Ext.skip))))) ?_
  refine sr_cmp rfl (wtd_none rfl) rfl (Rd.x (x_lt rfl rfl)) (fun h1 => ?_) (fun h1 => ?_)
  · refine sr_x rfl (wtd_none rfl) rfl (Rd.x (x_move rfl)) ?_
    refine sr_skip rfl (wtd_no rfl rfl rfl rfl) rfl ?_
    refine sr_skip rfl (wtd_no rfl rfl rfl rfl) rfl ?_
    refine sr_skip rfl (wtd_no rfl rfl rfl rfl) rfl ?_
    refine sr_x rfl (wtd_none rfl) rfl (Rd.x (x_pick_t rfl rfl rfl)) ?_
    refine sr_x rfl (wtd_none rfl) rfl (Rd.x (x_move rfl)) ?_
    refine sr_skip rfl (wtd_no rfl rfl rfl rfl) rfl ?_
    refine sr_skip rfl (wtd_no rfl rfl rfl rfl) rfl ?_
    refine sr_skip rfl (wtd_no rfl rfl rfl rfl) rfl ?_
    refine sr_x rfl (wtd_none rfl) rfl (Rd.x (x_pick_t rfl rfl rfl)) ?_
    refine sr_x rfl (wtd_none rfl) rfl (Rd.x (x_move rfl)) ?_
    refine sr_skip rfl (wtd_no rfl rfl rfl rfl) rfl ?_
    refine sr_skip rfl (wtd_no rfl rfl rfl rfl) rfl ?_
    refine sr_skip rfl (wtd_no rfl rfl rfl rfl) rfl ?_
    refine sr_x rfl (wtd_none rfl) rfl (Rd.x (x_pick_t rfl rfl rfl)) ?_
    refine sr_nil ?_
    refine aw_keep (keep_cons (t := 1) rfl (keep_cons (t := 2) rfl (keep_cons (t := 20) rfl keep_nil))) ?_
    refine aw_true rfl ?_
    refine aw_seq_region ?_
    refine sr_x rfl (wtd_none rfl) rfl (Rd.x (x_assign rfl)) ?_
    refine sr_nil ?_
    refine aw_keep (keep_cons (t := 1) rfl (keep_cons (t := 2) rfl keep_nil)) ?_
    refine aw_ret ?_
    show ∃ v H2, ResV _ _ _ _ _ _ v ∧ Sub H2 _ ∧ _
    exact ⟨_, H, resV rfl (.cons rfl .nil), (by repeat (first | exact Sub.refl _ | apply Sub.drop)), ⟨congrArg (Value.int .i64) (by unfold rightE; (repeat (first | rw [if_pos (by omega)] | rw [if_neg (by omega)]))), rfl⟩⟩
  · refine sr_x rfl (wtd_none rfl) rfl (Rd.x (x_move rfl)) ?_
    refine sr_x rfl (wtd_yes rfl rfl rfl) rfl (Rd.x (x_fieldAddr fd36_2 rfl)) ?_
    refine sr_x rfl (wtd_yes rfl rfl rfl) rfl (Rd.x (x_load ag3 rfl (cells_ext (by repeat (first | exact List.mem_cons_self | apply List.mem_cons_of_mem | apply List.mem_append_right)) (by repeat (first | exact Ext.all _ | exact Ext.done | apply Ext.take | apply Ext.skip))))) ?_
    refine sr_cmp rfl (wtd_yes rfl rfl rfl) rfl (Rd.x (x_gt rfl rfl)) (fun h2 => ?_) (fun h2 => ?_)
    · refine sr_x rfl (wtd_none rfl) rfl (Rd.x (x_pick_f rfl rfl rfl)) ?_
      refine sr_x rfl (wtd_none rfl) rfl (Rd.x (x_move rfl)) ?_
      refine sr_skip rfl (wtd_no rfl rfl rfl rfl) rfl ?_
      refine sr_skip rfl (wtd_no rfl rfl rfl rfl) rfl ?_
      refine sr_skip rfl (wtd_no rfl rfl rfl rfl) rfl ?_
      refine sr_x rfl (wtd_none rfl) rfl (Rd.x (x_pick_t rfl rfl rfl)) ?_
      refine sr_x rfl (wtd_none rfl) rfl (Rd.x (x_move rfl)) ?_
      refine sr_skip rfl (wtd_no rfl rfl rfl rfl) rfl ?_
      refine sr_skip rfl (wtd_no rfl rfl rfl rfl) rfl ?_
      refine sr_skip rfl (wtd_no rfl rfl rfl rfl) rfl ?_
      refine sr_x rfl (wtd_none rfl) rfl (Rd.x (x_pick_t rfl rfl rfl)) ?_
      refine sr_nil ?_
      refine aw_keep (keep_cons (t := 1) rfl (keep_cons (t := 2) rfl (keep_cons (t := 20) rfl keep_nil))) ?_
      refine aw_true rfl ?_
      refine aw_seq_region ?_
      refine sr_x rfl (wtd_none rfl) rfl (Rd.x (x_assign rfl)) ?_
      refine sr_nil ?_
      refine aw_keep (keep_cons (t := 1) rfl (keep_cons (t := 2) rfl keep_nil)) ?_
      refine aw_ret ?_
      show ∃ v H2, ResV _ _ _ _ _ _ v ∧ Sub H2 _ ∧ _
      exact ⟨_, H, resV rfl (.cons rfl .nil), (by repeat (first | exact Sub.refl _ | apply Sub.drop)), ⟨congrArg (Value.int .i64) (by unfold rightE; (repeat (first | rw [if_pos (by omega)] | rw [if_neg (by omega)]))), rfl⟩⟩
    · refine sr_x rfl (wtd_none rfl) rfl (Rd.x (x_pick_f rfl rfl rfl)) ?_
      refine sr_x rfl (wtd_none rfl) rfl (Rd.x (x_move rfl)) ?_
      refine sr_x rfl (wtd_yes rfl rfl rfl) rfl (Rd.x (x_fieldAddr fd36_5 rfl)) ?_
      refine sr_x rfl (wtd_yes rfl rfl rfl) rfl (Rd.x (x_load ag3 rfl (cells_ext (by repeat (first | exact List.mem_cons_self | apply List.mem_cons_of_mem | apply List.mem_append_right)) (by repeat (first | exact Ext.all _ | exact Ext.done | apply Ext.take | apply Ext.skip))))) ?_
      refine sr_cmp rfl (wtd_yes rfl rfl rfl) rfl (Rd.x (x_lt rfl rfl)) (fun h3 => ?_) (fun h3 => ?_)
      · refine sr_x rfl (wtd_none rfl) rfl (Rd.x (x_pick_f rfl rfl rfl)) ?_
        refine sr_x rfl (wtd_none rfl) rfl (Rd.x (x_move rfl)) ?_
        refine sr_skip rfl (wtd_no rfl rfl rfl rfl) rfl ?_
        refine sr_skip rfl (wtd_no rfl rfl rfl rfl) rfl ?_
        refine sr_skip rfl (wtd_no rfl rfl rfl rfl) rfl ?_
        refine sr_x rfl (wtd_none rfl) rfl (Rd.x (x_pick_t rfl rfl rfl)) ?_
        refine sr_nil ?_
        refine aw_keep (keep_cons (t := 1) rfl (keep_cons (t := 2) rfl (keep_cons (t := 20) rfl keep_nil))) ?_
        refine aw_true rfl ?_
        refine aw_seq_region ?_
        refine sr_x rfl (wtd_none rfl) rfl (Rd.x (x_assign rfl)) ?_
        refine sr_nil ?_
        refine aw_keep (keep_cons (t := 1) rfl (keep_cons (t := 2) rfl keep_nil)) ?_
        refine aw_ret ?_
        show ∃ v H2, ResV _ _ _ _ _ _ v ∧ Sub H2 _ ∧ _
        exact ⟨_, H, resV rfl (.cons rfl .nil), (by repeat (first | exact Sub.refl _ | apply Sub.drop)), ⟨congrArg (Value.int .i64) (by unfold rightE; (repeat (first | rw [if_pos (by omega)] | rw [if_neg (by omega)]))), rfl⟩⟩
      · refine sr_x rfl (wtd_none rfl) rfl (Rd.x (x_pick_f rfl rfl rfl)) ?_
        refine sr_x rfl (wtd_none rfl) rfl (Rd.x (x_move rfl)) ?_
        refine sr_x rfl (wtd_yes rfl rfl rfl) rfl (Rd.x (x_fieldAddr fd36_5 rfl)) ?_
        refine sr_x rfl (wtd_yes rfl rfl rfl) rfl (Rd.x (x_load ag3 rfl (cells_ext (by repeat (first | exact List.mem_cons_self | apply List.mem_cons_of_mem | apply List.mem_append_right)) (by repeat (first | exact Ext.all _ | exact Ext.done | apply Ext.take | apply Ext.skip))))) ?_
        refine sr_cmp rfl (wtd_yes rfl rfl rfl) rfl (Rd.x (x_gt rfl rfl)) (fun h4 => ?_) (fun h4 => ?_)
        · refine sr_x rfl (wtd_none rfl) rfl (Rd.x (x_pick_f rfl rfl rfl)) ?_
          refine sr_nil ?_
          refine aw_keep (keep_cons (t := 1) rfl (keep_cons (t := 2) rfl (keep_cons (t := 20) rfl keep_nil))) ?_
          refine aw_true rfl ?_
          refine aw_seq_region ?_
          refine sr_x rfl (wtd_none rfl) rfl (Rd.x (x_assign rfl)) ?_
          refine sr_nil ?_
          refine aw_keep (keep_cons (t := 1) rfl (keep_cons (t := 2) rfl keep_nil)) ?_
          refine aw_ret ?_
          show ∃ v H2, ResV _ _ _ _ _ _ v ∧ Sub H2 _ ∧ _
          exact ⟨_, H, resV rfl (.cons rfl .nil), (by repeat (first | exact Sub.refl _ | apply Sub.drop)), ⟨congrArg (Value.int .i64) (by unfold rightE; (repeat (first | rw [if_pos (by omega)] | rw [if_neg (by omega)]))), rfl⟩⟩
        · refine sr_x rfl (wtd_none rfl) rfl (Rd.x (x_pick_f rfl rfl rfl)) ?_
          refine sr_nil ?_
          refine aw_keep (keep_cons (t := 1) rfl (keep_cons (t := 2) rfl (keep_cons (t := 20) rfl keep_nil))) ?_
          refine aw_false rfl ?_
          refine aw_skip ?_
          show AW _ _ _ _ _ _ _
          refine aw_seq ?_
          refine aw_seq_region ?_
          refine sr_x rfl (wtd_none rfl) rfl (Rd.x (x_fieldAddr fd36_3 rfl)) ?_
          refine sr_x rfl (wtd_none rfl) rfl (Rd.x (x_load ag3 rfl (cells_ext (by repeat (first | exact List.mem_cons_self | apply List.mem_cons_of_mem | apply List.mem_append_right)) (by repeat (first | exact Ext.all _ | exact Ext.done | apply Ext.take | apply Ext.skip))))) ?_
          refine sr_cmp rfl (wtd_none rfl) rfl (Rd.x (x_lt rfl rfl)) (fun h5 => ?_) (fun h5 => ?_)
          · refine sr_x rfl (wtd_none rfl) rfl (Rd.x (x_move rfl)) ?_
            refine sr_skip rfl (wtd_no rfl rfl rfl rfl) rfl ?_
            refine sr_skip rfl (wtd_no rfl rfl rfl rfl) rfl ?_
            refine sr_skip rfl (wtd_no rfl rfl rfl rfl) rfl ?_
            refine sr_x rfl (wtd_none rfl) rfl (Rd.x (x_pick_t rfl rfl rfl)) ?_
            refine sr_nil ?_
            refine aw_keep (keep_cons (t := 1) rfl (keep_cons (t := 2) rfl (keep_cons (t := 28) rfl keep_nil))) ?_
            refine aw_true rfl ?_
            refine aw_seq_region ?_
            refine sr_x rfl (wtd_none rfl) rfl (Rd.x (x_assign rfl)) ?_
            refine sr_nil ?_
            refine aw_keep (keep_cons (t := 1) rfl (keep_cons (t := 2) rfl keep_nil)) ?_
            refine aw_ret ?_
            show ∃ v H2, ResV _ _ _ _ _ _ v ∧ Sub H2 _ ∧ _
            exact ⟨_, H, resV rfl (.cons rfl .nil), (by repeat (first | exact Sub.refl _ | apply Sub.drop)), ⟨congrArg (Value.int .i64) (by unfold rightE; (repeat (first | rw [if_pos (by omega)] | rw [if_neg (by omega)]))), rfl⟩⟩
          · refine sr_x rfl (wtd_none rfl) rfl (Rd.x (x_move rfl)) ?_
            refine sr_x rfl (wtd_yes rfl rfl rfl) rfl (Rd.x (x_fieldAddr fd36_3 rfl)) ?_
            refine sr_x rfl (wtd_yes rfl rfl rfl) rfl (Rd.x (x_load ag3 rfl (cells_ext (by repeat (first | exact List.mem_cons_self | apply List.mem_cons_of_mem | apply List.mem_append_right)) (by repeat (first | exact Ext.all _ | exact Ext.done | apply Ext.take | apply Ext.skip))))) ?_
            refine sr_cmp rfl (wtd_yes rfl rfl rfl) rfl (Rd.x (x_gt rfl rfl)) (fun h6 => ?_) (fun h6 => ?_)
            · refine sr_x rfl (wtd_none rfl) rfl (Rd.x (x_pick_f rfl rfl rfl)) ?_
              refine sr_nil ?_
              refine aw_keep (keep_cons (t := 1) rfl (keep_cons (t := 2) rfl (keep_cons (t := 28) rfl keep_nil))) ?_
              refine aw_true rfl ?_
              refine aw_seq_region ?_
              refine sr_x rfl (wtd_none rfl) rfl (Rd.x (x_assign rfl)) ?_
              refine sr_nil ?_
              refine aw_keep (keep_cons (t := 1) rfl (keep_cons (t := 2) rfl keep_nil)) ?_
              refine aw_ret ?_
              show ∃ v H2, ResV _ _ _ _ _ _ v ∧ Sub H2 _ ∧ _
              exact ⟨_, H, resV rfl (.cons rfl .nil), (by repeat (first | exact Sub.refl _ | apply Sub.drop)), ⟨congrArg (Value.int .i64) (by unfold rightE; (repeat (first | rw [if_pos (by omega)] | rw [if_neg (by omega)]))), rfl⟩⟩
            · refine sr_x rfl (wtd_none rfl) rfl (Rd.x (x_pick_f rfl rfl rfl)) ?_
              refine sr_nil ?_
              refine aw_keep (keep_cons (t := 1) rfl (keep_cons (t := 2) rfl (keep_cons (t := 28) rfl keep_nil))) ?_
              refine aw_false rfl ?_
              refine aw_skip ?_
              show AW _ _ _ _ _ _ _
              refine aw_seq ?_
              refine aw_seq_region ?_
              refine sr_x rfl (wtd_none rfl) rfl (Rd.x (x_fieldAddr fd36_4 rfl)) ?_
              refine sr_x rfl (wtd_none rfl) rfl (Rd.x (x_load ag2 rfl (cells_ext (by repeat (first | exact List.mem_cons_self | apply List.mem_cons_of_mem | apply List.mem_append_right)) (by repeat (first | exact Ext.all _ | exact Ext.done | apply Ext.take | apply Ext.skip))))) ?_
              refine sr_cmp rfl (wtd_none rfl) rfl (Rd.x (x_lt rfl rfl)) (fun h7 => ?_) (fun h7 => ?_)
              · refine sr_x rfl (wtd_none rfl) rfl (Rd.x (x_move rfl)) ?_
                refine sr_skip rfl (wtd_no rfl rfl rfl rfl) rfl ?_
                refine sr_skip rfl (wtd_no rfl rfl rfl rfl) rfl ?_
                refine sr_skip rfl (wtd_no rfl rfl rfl rfl) rfl ?_
                refine sr_x rfl (wtd_none rfl) rfl (Rd.x (x_pick_t rfl rfl rfl)) ?_
                refine sr_nil ?_
                refine aw_keep (keep_cons (t := 2) rfl (keep_cons (t := 36) rfl keep_nil)) ?_
                refine aw_true rfl ?_
                refine aw_seq_region ?_
                refine sr_x rfl (wtd_none rfl) rfl (Rd.x (x_assign rfl)) ?_
                refine sr_nil ?_
                refine aw_keep (keep_cons (t := 2) rfl keep_nil) ?_
                refine aw_ret ?_
                show ∃ v H2, ResV _ _ _ _ _ _ v ∧ Sub H2 _ ∧ _
                exact ⟨_, H, resV rfl (.cons rfl .nil), (by repeat (first | exact Sub.refl _ | apply Sub.drop)), ⟨congrArg (Value.int .i64) (by unfold rightE; (repeat (first | rw [if_pos (by omega)] | rw [if_neg (by omega)]))), rfl⟩⟩
              · refine sr_x rfl (wtd_none rfl) rfl (Rd.x (x_move rfl)) ?_
                refine sr_x rfl (wtd_yes rfl rfl rfl) rfl (Rd.x (x_fieldAddr fd36_4 rfl)) ?_
                refine sr_x rfl (wtd_yes rfl rfl rfl) rfl (Rd.x (x_load ag2 rfl (cells_ext (by repeat (first | exact List.mem_cons_self | apply List.mem_cons_of_mem | apply List.mem_append_right)) (by repeat (first | exact Ext.all _ | exact Ext.done | apply Ext.take | apply Ext.skip))))) ?_
                refine sr_cmp rfl (wtd_yes rfl rfl rfl) rfl (Rd.x (x_gt rfl rfl)) (fun h8 => ?_) (fun h8 => ?_)
                · refine sr_x rfl (wtd_none rfl) rfl (Rd.x (x_pick_f rfl rfl rfl)) ?_
                  refine sr_nil ?_
                  refine aw_keep (keep_cons (t := 2) rfl (keep_cons (t := 36) rfl keep_nil)) ?_
                  refine aw_true rfl ?_
                  refine aw_seq_region ?_
                  refine sr_x rfl (wtd_none rfl) rfl (Rd.x (x_assign rfl)) ?_
                  refine sr_nil ?_
                  refine aw_keep (keep_cons (t := 2) rfl keep_nil) ?_
                  refine aw_ret ?_
                  show ∃ v H2, ResV _ _ _ _ _ _ v ∧ Sub H2 _ ∧ _
                  exact ⟨_, H, resV rfl (.cons rfl .nil), (by repeat (first | exact Sub.refl _ | apply Sub.drop)), ⟨congrArg (Value.int .i64) (by unfold rightE; (repeat (first | rw [if_pos (by omega)] | rw [if_neg (by omega)]))), rfl⟩⟩
                · refine sr_x rfl (wtd_none rfl) rfl (Rd.x (x_pick_f rfl rfl rfl)) ?_
                  refine sr_nil ?_
                  refine aw_keep (keep_cons (t := 2) rfl (keep_cons (t := 36) rfl keep_nil)) ?_
                  refine aw_false rfl ?_
                  refine aw_skip ?_
                  show AW _ _ _ _ _ _ _
                  refine aw_seq_region ?_
                  refine sr_x rfl (wtd_none rfl) rfl (Rd.x (x_assign rfl)) ?_
                  refine sr_nil ?_
                  refine aw_keep (keep_cons (t := 2) rfl keep_nil) ?_
                  refine aw_ret ?_
                  show ∃ v H2, ResV _ _ _ _ _ _ v ∧ Sub H2 _ ∧ _
                  exact ⟨_, H, resV rfl (.cons rfl .nil), (by repeat (first | exact Sub.refl _ | apply Sub.drop)), ⟨congrArg (Value.int .i64) (by unfold rightE; (repeat (first | rw [if_pos (by omega)] | rw [if_neg (by omega)]))), rfl⟩⟩
set_option maxRecDepth 100000 in
set_option maxHeartbeats 400000 in
theorem alive_s (s : Int) (H : SHeap) : AC Try.prog W0 31 [.int .i64 s] H (fun v H' => (∃ b : Bool, v = .bool b ∧ (b = true ↔ 1 ≤ s ∧ s ≤ 3)) ∧ H' = H) := by
  refine ac_of Try.func31 rfl rfl rfl ?_
  refine aw_seq_region ?_
  refine sr_x rfl (wtd_none rfl) rfl (Rd.x (x_assign rfl)) ?_
  refine sr_nil ?_
  refine aw_keep (keep_cons (t := 0) rfl (keep_cons (t := 2) rfl keep_nil)) ?_
  refine aw_seq_region ?_
  refine sr_x rfl (wtd_none rfl) rfl (Rd.x (x_move rfl)) ?_
  refine sr_cmp rfl (wtd_none rfl) rfl (Rd.x (x_ge rfl rfl)) (fun h1 => ?_) (fun h1 => ?_)
  · refine sr_x rfl (wtd_none rfl) rfl (Rd.x (x_move rfl)) ?_
    refine sr_x rfl (wtd_yes rfl rfl rfl) rfl (Rd.x (x_move rfl)) ?_
    refine sr_cmp rfl (wtd_yes rfl rfl rfl) rfl (Rd.x (x_le rfl rfl)) (fun h2 => ?_) (fun h2 => ?_)
    · refine sr_x rfl (wtd_none rfl) rfl (Rd.x (x_pick_t rfl rfl rfl)) ?_
      refine sr_x rfl (wtd_none rfl) rfl (Rd.x (x_assign rfl)) ?_
      refine sr_nil ?_
      refine aw_keep (keep_cons (t := 2) rfl keep_nil) ?_
      refine aw_ret ?_
      show ∃ v H2, ResV _ _ _ _ _ _ v ∧ Sub H2 _ ∧ _
      exact ⟨_, H, resV rfl (.cons rfl .nil), (by repeat (first | exact Sub.refl _ | apply Sub.drop)), ⟨⟨_, rfl, by simp <;> omega⟩, rfl⟩⟩
    · refine sr_x rfl (wtd_none rfl) rfl (Rd.x (x_pick_t rfl rfl rfl)) ?_
      refine sr_x rfl (wtd_none rfl) rfl (Rd.x (x_assign rfl)) ?_
      refine sr_nil ?_
      refine aw_keep (keep_cons (t := 2) rfl keep_nil) ?_
      refine aw_ret ?_
      show ∃ v H2, ResV _ _ _ _ _ _ v ∧ Sub H2 _ ∧ _
      exact ⟨_, H, resV rfl (.cons rfl .nil), (by repeat (first | exact Sub.refl _ | apply Sub.drop)), ⟨⟨_, rfl, by simp <;> omega⟩, rfl⟩⟩
  · refine sr_x rfl (wtd_none rfl) rfl (Rd.x (x_move rfl)) ?_
    refine sr_skip rfl (wtd_no rfl rfl rfl rfl) rfl ?_
    refine sr_skip rfl (wtd_no rfl rfl rfl rfl) rfl ?_
    refine sr_x rfl (wtd_none rfl) rfl (Rd.x (x_pick_f rfl rfl rfl)) ?_
    refine sr_x rfl (wtd_none rfl) rfl (Rd.x (x_assign rfl)) ?_
    refine sr_nil ?_
    refine aw_keep (keep_cons (t := 2) rfl keep_nil) ?_
    refine aw_ret ?_
    show ∃ v H2, ResV _ _ _ _ _ _ v ∧ Sub H2 _ ∧ _
    exact ⟨_, H, resV rfl (.cons rfl .nil), (by repeat (first | exact Sub.refl _ | apply Sub.drop)), ⟨⟨_, rfl, by simp <;> omega⟩, rfl⟩⟩
set_option maxRecDepth 100000 in
set_option maxHeartbeats 400000 in
theorem new_s (H : SHeap) : AC Try.prog W0 33 [] H (fun v H' => ∃ p, p ∉ keys H ∧ W0.heap.size ≤ p ∧ v = .pointer (some ⟨p, 0, none⟩) ∧ H' = tab p (.slice none 0 0) 0 :: H) := by
  refine ac_of Try.func33 rfl rfl rfl ?_
  refine aw_seq_region ?_
  refine sr_x rfl (wtd_none rfl) rfl (Rd.x (x_assign rfl)) ?_
  refine sr_nil ?_
  refine aw_keep (keep_cons (t := 0) rfl keep_nil) ?_
  refine aw_seq_region ?_
  refine sr_x rfl (wtd_none rfl) rfl (Rd.x (x_build zr168 rfl fl168 (by repeat (first | exact Parts.nil | (apply Parts.cons; rfl))) (by repeat (first | exact Fill.done | (apply Fill.part; rfl; rfl; rfl; focus (repeat (first | exact Spl.done | exact Spl.all rfl | apply Spl.put | apply Spl.skip))))))) ?_
  refine sr_new rfl (wtd_none rfl) rfl (x_box rfl rfl) ?_
  intro r1_1 hr1_1 gr1_1
  refine sr_x rfl (wtd_none rfl) rfl (Rd.x (x_assign rfl)) ?_
  refine sr_nil ?_
  refine aw_keep (keep_cons (t := 0) rfl keep_nil) ?_
  refine aw_ret ?_
  show ∃ v H2, ResV _ _ _ _ _ _ v ∧ Sub H2 _ ∧ _
  exact ⟨_, _, resV rfl (.cons rfl .nil), (by repeat (first | exact Sub.refl _ | apply Sub.drop)), ⟨_, hr1_1, gr1_1, rfl, rfl⟩⟩
set_option maxRecDepth 100000 in
set_option maxHeartbeats 400000 in
theorem none_s (p : Nat) (sl : Value) (live : Int) (H : SHeap) (hc : Cells W0 H p 0 (tabC sl live)) : AC Try.prog W0 99 [.pointer (some ⟨p, 0, none⟩)] H (fun v H' => v = .bool false ∧ H' = H) := by
  refine ac_of Try.func99 rfl rfl rfl ?_
  refine aw_seq_region ?_
  refine sr_x rfl (wtd_none rfl) rfl (Rd.x (x_assign rfl)) ?_
  refine sr_nil ?_
  refine aw_keep (keep_cons (t := 0) rfl (keep_cons (t := 2) rfl keep_nil)) ?_
  refine aw_seq_region ?_
  refine sr_x rfl (wtd_none rfl) rfl (Rd.x (x_move rfl)) ?_
  refine sr_x rfl (wtd_none rfl) rfl (Rd.x (x_eqnil Try.underlying41 rfl rfl)) ?_
  refine sr_x rfl (wtd_none rfl) rfl (Rd.x (x_move rfl)) ?_
  refine sr_x rfl (wtd_yes rfl rfl rfl) rfl (Rd.x (x_move rfl)) ?_
  refine sr_x rfl (wtd_yes rfl rfl rfl) rfl (Rd.x (x_nilCheck rfl)) ?_
  refine sr_x rfl (wtd_yes rfl rfl rfl) rfl (Rd.x (x_fieldAddr fd168_2 rfl)) ?_
  refine sr_x rfl (wtd_yes rfl rfl rfl) rfl (Rd.x (x_load ag4 rfl (cells_get (Cells.mono hc (by repeat (first | exact Sub.refl _ | apply Sub.drop))) 2 rfl))) ?_
  refine sr_x rfl (wtd_yes rfl rfl rfl) rfl (Rd.x (x_not rfl)) ?_
  refine sr_x rfl (wtd_none rfl) rfl (Rd.x (x_pick_f rfl rfl rfl)) ?_
  refine sr_x rfl (wtd_none rfl) rfl (Rd.x (x_assign rfl)) ?_
  refine sr_nil ?_
  refine aw_keep (keep_cons (t := 2) rfl keep_nil) ?_
  refine aw_ret ?_
  show ∃ v H2, ResV _ _ _ _ _ _ v ∧ Sub H2 _ ∧ _
  exact ⟨_, H, resV rfl (.cons rfl .nil), (by repeat (first | exact Sub.refl _ | apply Sub.drop)), ⟨rfl, rfl⟩⟩
set_option maxRecDepth 100000 in
set_option maxHeartbeats 400000 in
theorem get_s (p : Nat) (a : Option Addr) (cap : Nat) (jobs : List Job) (live : Int) (id : Int) (H : SHeap) (hc : Cells W0 H p 0 (tabC (.slice a jobs.length cap) live)) (hs : SlV W0 H 10 Job.cells a cap jobs) : AC Try.prog W0 77 [.pointer (some ⟨p, 0, none⟩), .int .i64 id] H (fun v H' => (((id < 1 ∨ jobs.length < id) ∧ v = .tuple #[(⟨0, 0, 0, 0, 0, 0, 0, 0, 0, 0⟩ : Job).v, .int .i64 7]) ∨ (∃ (k : Nat) (j : Job), id = k + 1 ∧ jobs[k]? = some j ∧ v = .tuple #[j.v, .int .i64 0])) ∧ H' = H) := by
  have hle := hs.le
  have hcb := hs.capb
  refine ac_of Try.func77 rfl rfl rfl ?_
  refine aw_seq_region ?_
  refine sr_new rfl (wtd_none rfl) rfl (x_alloc zr91 rfl) ?_
  intro r0_0 hr0_0 gr0_0
  refine sr_x rfl (wtd_none rfl) rfl (Rd.x (x_assign rfl)) ?_
  refine sr_nil ?_
  refine aw_keep (keep_cons (t := 0) rfl (keep_cons (t := 1) rfl (keep_cons (t := 4) rfl (keep_cons (t := 5) rfl keep_nil)))) ?_
  refine aw_seq ?_
  refine aw_block ?_
  refine aw_seq_region ?_
  refine sr_x rfl (wtd_none rfl) rfl (Rd.x (x_move rfl)) ?_
  refine sr_d rfl (wtd_none rfl) rfl (opS_call rfl rfl rfl rfl cl99 (none_s _ _ _ _ (Cells.mono hc (by repeat (first | exact Sub.refl _ | apply Sub.drop))))) ?_
  rintro _ H ⟨rfl, rfl⟩
  refine sr_x rfl (wtd_none rfl) rfl (Rd.x (x_assign rfl)) ?_
  refine sr_nil ?_
  refine aw_keep (keep_cons (t := 0) rfl (keep_cons (t := 1) rfl (keep_cons (t := 4) rfl (keep_cons (t := 5) rfl (keep_cons (t := 6) rfl keep_nil))))) ?_
  refine aw_false rfl ?_
  refine aw_seq_region ?_
  refine sr_x rfl (wtd_none rfl) rfl (Rd.x (x_move rfl)) ?_
  refine sr_cmp rfl (wtd_none rfl) rfl (Rd.x (x_lt rfl rfl)) (fun h1 => ?_) (fun h1 => ?_)
  · refine sr_x rfl (wtd_none rfl) rfl (Rd.x (x_move rfl)) ?_
    refine sr_skip rfl (wtd_no rfl rfl rfl rfl) rfl ?_
    refine sr_skip rfl (wtd_no rfl rfl rfl rfl) rfl ?_
    refine sr_skip rfl (wtd_no rfl rfl rfl rfl) rfl ?_
    refine sr_skip rfl (wtd_no rfl rfl rfl rfl) rfl ?_
    refine sr_skip rfl (wtd_no rfl rfl rfl rfl) rfl ?_
    refine sr_skip rfl (wtd_no rfl rfl rfl rfl) rfl ?_
    refine sr_skip rfl (wtd_no rfl rfl rfl rfl) rfl ?_
    refine sr_x rfl (wtd_none rfl) rfl (Rd.x (x_pick_t rfl rfl rfl)) ?_
    refine sr_x rfl (wtd_none rfl) rfl (Rd.x (x_assign rfl)) ?_
    refine sr_nil ?_
    refine aw_keep (keep_cons (t := 0) rfl (keep_cons (t := 1) rfl (keep_cons (t := 4) rfl (keep_cons (t := 5) rfl (keep_cons (t := 10) rfl keep_nil))))) ?_
    refine aw_true rfl ?_
    refine aw_seq_region ?_
    refine sr_x rfl (wtd_none rfl) rfl (Rd.x (x_build zr91 rfl fl91 (by repeat (first | exact Parts.nil | (apply Parts.cons; rfl))) (by repeat (first | exact Fill.done | (apply Fill.part; rfl; rfl; rfl; focus (repeat (first | exact Spl.done | exact Spl.all rfl | apply Spl.put | apply Spl.skip))))))) ?_
    refine sr_x0 rfl (wtd_none rfl) (x_store sz91 rfl rfl rfl rfl rfl (by repeat (first | exact Repl.here | apply Repl.there | apply Repl.app)) (by repeat (first | exact Spl.done | exact Spl.all rfl | apply Spl.put | apply Spl.skip))) ?_
    refine sr_x rfl (wtd_none rfl) rfl (Rd.x (x_assign rfl)) ?_
    refine sr_nil ?_
    refine aw_keep (keep_cons (t := 0) rfl (keep_cons (t := 1) rfl (keep_cons (t := 4) rfl (keep_cons (t := 5) rfl keep_nil)))) ?_
    refine aw_ret ?_
    show ∃ v H2, ResV _ _ _ _ _ _ v ∧ Sub H2 _ ∧ _
    exact ⟨_, H, resV rfl (.cons (⟨_, rfl, fun hw => rd_loadVarN ag91 sz91 hw (cells_ext (by repeat (first | exact List.mem_cons_self | apply List.mem_cons_of_mem | apply List.mem_append_right)) (by repeat (first | exact Ext.all _ | exact Ext.done | apply Ext.take | apply Ext.skip))) rfl⟩) (.cons rfl .nil)), (by repeat (first | exact Sub.refl _ | apply Sub.drop)), (by first | exact ⟨.inl ⟨by omega, rfl⟩, rfl⟩ | exact ⟨.inr ⟨k, j, rfl, hj, rfl⟩, rfl⟩)⟩
  · refine sr_x rfl (wtd_none rfl) rfl (Rd.x (x_move rfl)) ?_
    refine sr_x rfl (wtd_yes rfl rfl rfl) rfl (Rd.x (x_move rfl)) ?_
    refine sr_x rfl (wtd_yes rfl rfl rfl) rfl (Rd.x (x_move rfl)) ?_
    refine sr_x rfl (wtd_yes rfl rfl rfl) rfl (Rd.x (x_nilCheck rfl)) ?_
    refine sr_x rfl (wtd_yes rfl rfl rfl) rfl (Rd.x (x_fieldAddr fd168_0 rfl)) ?_
    refine sr_x rfl (wtd_yes rfl rfl rfl) rfl (Rd.x (x_load ag22 rfl (cells_get (Cells.mono hc (by repeat (first | exact Sub.refl _ | apply Sub.drop))) 0 rfl))) ?_
    refine sr_x rfl (wtd_yes rfl rfl rfl) rfl (Rd.x (x_lenSlice Try.underlying22 rfl)) ?_
    refine sr_cmp rfl (wtd_yes rfl rfl rfl) rfl (Rd.x (x_gt rfl rfl)) (fun h2 => ?_) (fun h2 => ?_)
    · refine sr_x rfl (wtd_none rfl) rfl (Rd.x (x_pick_f rfl rfl rfl)) ?_
      refine sr_x rfl (wtd_none rfl) rfl (Rd.x (x_assign rfl)) ?_
      refine sr_nil ?_
      refine aw_keep (keep_cons (t := 0) rfl (keep_cons (t := 1) rfl (keep_cons (t := 4) rfl (keep_cons (t := 5) rfl (keep_cons (t := 10) rfl keep_nil))))) ?_
      refine aw_true rfl ?_
      refine aw_seq_region ?_
      refine sr_x rfl (wtd_none rfl) rfl (Rd.x (x_build zr91 rfl fl91 (by repeat (first | exact Parts.nil | (apply Parts.cons; rfl))) (by repeat (first | exact Fill.done | (apply Fill.part; rfl; rfl; rfl; focus (repeat (first | exact Spl.done | exact Spl.all rfl | apply Spl.put | apply Spl.skip))))))) ?_
      refine sr_x0 rfl (wtd_none rfl) (x_store sz91 rfl rfl rfl rfl rfl (by repeat (first | exact Repl.here | apply Repl.there | apply Repl.app)) (by repeat (first | exact Spl.done | exact Spl.all rfl | apply Spl.put | apply Spl.skip))) ?_
      refine sr_x rfl (wtd_none rfl) rfl (Rd.x (x_assign rfl)) ?_
      refine sr_nil ?_
      refine aw_keep (keep_cons (t := 0) rfl (keep_cons (t := 1) rfl (keep_cons (t := 4) rfl (keep_cons (t := 5) rfl keep_nil)))) ?_
      refine aw_ret ?_
      show ∃ v H2, ResV _ _ _ _ _ _ v ∧ Sub H2 _ ∧ _
      exact ⟨_, H, resV rfl (.cons (⟨_, rfl, fun hw => rd_loadVarN ag91 sz91 hw (cells_ext (by repeat (first | exact List.mem_cons_self | apply List.mem_cons_of_mem | apply List.mem_append_right)) (by repeat (first | exact Ext.all _ | exact Ext.done | apply Ext.take | apply Ext.skip))) rfl⟩) (.cons rfl .nil)), (by repeat (first | exact Sub.refl _ | apply Sub.drop)), (by first | exact ⟨.inl ⟨by omega, rfl⟩, rfl⟩ | exact ⟨.inr ⟨k, j, rfl, hj, rfl⟩, rfl⟩)⟩
    · refine sr_x rfl (wtd_none rfl) rfl (Rd.x (x_pick_f rfl rfl rfl)) ?_
      refine sr_x rfl (wtd_none rfl) rfl (Rd.x (x_assign rfl)) ?_
      refine sr_nil ?_
      refine aw_keep (keep_cons (t := 0) rfl (keep_cons (t := 1) rfl (keep_cons (t := 4) rfl (keep_cons (t := 5) rfl (keep_cons (t := 10) rfl keep_nil))))) ?_
      refine aw_false rfl ?_
      refine aw_skip ?_
      show AW _ _ _ _ _ _ _
      refine aw_seq_region ?_
      obtain ⟨k, rfl⟩ : ∃ k : Nat, id = k + 1 := ⟨(id - 1).toNat, by omega⟩
      obtain ⟨j, hj⟩ := get_ex (show k < jobs.length by omega)
      obtain ⟨bj, oj, haj, hcj⟩ := hs.at_ k _ hj
      refine sr_x rfl (wtd_none rfl) rfl (Rd.x (x_move rfl)) ?_
      refine sr_x rfl (wtd_none rfl) rfl (Rd.x (x_nilCheck rfl)) ?_
      refine sr_x rfl (wtd_none rfl) rfl (Rd.x (x_fieldAddr fd168_0 rfl)) ?_
      refine sr_x rfl (wtd_none rfl) rfl (Rd.x (x_load ag22 rfl (cells_get (Cells.mono hc (by repeat (first | exact Sub.refl _ | apply Sub.drop))) 0 rfl))) ?_
      refine sr_x rfl (wtd_none rfl) rfl (Rd.x (x_move rfl)) ?_
      refine sr_x rfl (wtd_none rfl) rfl (Rd.x (x_sub' rfl rfl (i64w (by omega) (by omega)))) ?_
      refine sr_x rfl (wtd_none rfl) rfl (Rd.x (x_indexAddrN k Try.underlying22 sz91 rfl haj rfl (by omega) (by omega))) ?_
      refine sr_x rfl (wtd_none rfl) rfl (Rd.x (x_loadN ag91 sz91 rfl (Cells.mono hcj (by repeat (first | exact Sub.refl _ | apply Sub.drop))) rfl)) ?_
      refine sr_x0 rfl (wtd_none rfl) (x_store sz91 rfl rfl rfl rfl rfl (by repeat (first | exact Repl.here | apply Repl.there | apply Repl.app)) (by repeat (first | exact Spl.done | exact Spl.all rfl | apply Spl.put | apply Spl.skip))) ?_
      refine sr_x rfl (wtd_none rfl) rfl (Rd.x (x_assign rfl)) ?_
      refine sr_nil ?_
      refine aw_keep (keep_cons (t := 4) rfl (keep_cons (t := 5) rfl keep_nil)) ?_
      refine aw_ret ?_
      show ∃ v H2, ResV _ _ _ _ _ _ v ∧ Sub H2 _ ∧ _
      exact ⟨_, H, resV rfl (.cons (⟨_, rfl, fun hw => rd_loadVarN ag91 sz91 hw (cells_ext (by repeat (first | exact List.mem_cons_self | apply List.mem_cons_of_mem | apply List.mem_append_right)) (by repeat (first | exact Ext.all _ | exact Ext.done | apply Ext.take | apply Ext.skip))) rfl⟩) (.cons rfl .nil)), (by repeat (first | exact Sub.refl _ | apply Sub.drop)), (by first | exact ⟨.inl ⟨by omega, rfl⟩, rfl⟩ | exact ⟨.inr ⟨k, j, rfl, hj, rfl⟩, rfl⟩)⟩
set_option maxRecDepth 100000 in
set_option maxHeartbeats 400000 in
theorem index_s (b n : Nat) (xs : List Int) (x : Int) (H : SHeap) (hn : n = xs.length) (hm : n ≤ 1000000) (hc : Cells W0 H b 0 (xs.map (.int .i64))) : AC Try.prog W0 141 [.slice (some ⟨b, 0, none⟩) n n, .int .i64 x] H (fun v H' => (∃ i : Int, v = .int .i64 i ∧ (0 ≤ i ↔ x ∈ xs)) ∧ H' = H) := by
  refine ac_of Try.func141 rfl rfl rfl ?_
  refine aw_seq_region ?_
  refine sr_x rfl (wtd_none rfl) rfl (Rd.x (x_assign rfl)) ?_
  refine sr_nil ?_
  refine aw_keep (keep_cons (t := 0) rfl (keep_cons (t := 1) rfl (keep_cons (t := 4) rfl keep_nil))) ?_
  refine aw_seq ?_
  refine aw_seq_region ?_
  refine sr_x rfl (wtd_none rfl) rfl (Rd.x (x_move rfl)) ?_
  refine sr_x rfl (wtd_none rfl) rfl (Rd.x (x_lenSlice Try.underlying134 rfl)) ?_
  refine sr_x rfl (wtd_none rfl) rfl (Rd.x (x_move rfl)) ?_
  refine sr_nil ?_
  refine aw_keep (keep_cons (t := 0) rfl (keep_cons (t := 1) rfl (keep_cons (t := 4) rfl (keep_cons (t := 7) rfl (keep_cons (t := 8) rfl keep_nil))))) ?_
  refine aw_block ?_
  refine aw_loop (ι := Nat) (fun k => k ≤ xs.length ∧ ∀ i y, i < k → xs[i]? = some y → x ≠ y) (fun k => [(0, .slice (some ⟨b, 0, none⟩) n n), (1, .int .i64 x), (7, .int .i64 n), (8, .int .i64 k)]) (fun _ => H) (fun k => xs.length - k) 0 (⟨Nat.zero_le _, fun _ _ h => by omega⟩) (by (repeat (first | exact keep_nil | refine keep_cons rfl ?_)); first | done | fail) (by repeat (first | exact Sub.refl _ | apply Sub.drop)) ?_
  intro k hk
  obtain ⟨hk0, hno⟩ := hk
  refine aw_seq_region ?_
  refine sr_cmp rfl (wtd_none rfl) rfl (Rd.x (x_lt rfl rfl)) (fun h1 => ?_) (fun h1 => ?_)
  · refine sr_nil ?_
    refine aw_keep (keep_cons (t := 0) rfl (keep_cons (t := 1) rfl (keep_cons (t := 7) rfl (keep_cons (t := 8) rfl (keep_cons (t := 9) rfl keep_nil))))) ?_
    refine aw_seq ?_
    refine aw_true rfl ?_
    refine aw_skip ?_
    show AW _ _ _ _ _ _ _
    refine aw_seq ?_
    refine aw_block ?_
    refine aw_seq_region ?_
    refine sr_x rfl (wtd_none rfl) rfl (Rd.x (x_move rfl)) ?_
    refine sr_x rfl (wtd_none rfl) rfl (Rd.x (x_assign rfl)) ?_
    refine sr_nil ?_
    refine aw_keep (keep_cons (t := 0) rfl (keep_cons (t := 1) rfl (keep_cons (t := 5) rfl (keep_cons (t := 7) rfl (keep_cons (t := 8) rfl (keep_cons (t := 9) rfl (keep_cons (t := 10) rfl keep_nil))))))) ?_
    refine aw_seq_region ?_
    obtain ⟨y, hy⟩ := get_ex (show k < xs.length by omega)
    refine sr_x rfl (wtd_none rfl) rfl (Rd.x (x_move rfl)) ?_
    refine sr_x rfl (wtd_none rfl) rfl (Rd.x (x_move rfl)) ?_
    refine sr_x rfl (wtd_none rfl) rfl (Rd.x (x_move rfl)) ?_
    refine sr_x rfl (wtd_none rfl) rfl (Rd.x (x_indexAddr Try.underlying134 sz3 rfl rfl (by omega) (by omega))) ?_
    refine sr_x rfl (wtd_none rfl) rfl (Rd.x (x_load ag3 rfl (cells_get hc _ (v := .int .i64 y) (by simp [hy])))) ?_
    refine sr_cmp rfl (wtd_none rfl) rfl (Rd.x (x_eq rfl rfl)) (fun h2 => ?_) (fun h2 => ?_)
    · refine sr_nil ?_
      refine aw_keep (keep_cons (t := 0) rfl (keep_cons (t := 1) rfl (keep_cons (t := 5) rfl (keep_cons (t := 7) rfl (keep_cons (t := 8) rfl (keep_cons (t := 9) rfl (keep_cons (t := 10) rfl (keep_cons (t := 11) rfl (keep_cons (t := 12) rfl (keep_cons (t := 13) rfl (keep_cons (t := 14) rfl (keep_cons (t := 15) rfl (keep_cons (t := 16) rfl keep_nil))))))))))))) ?_
      refine aw_true rfl ?_
      refine aw_seq_region ?_
      refine sr_x rfl (wtd_none rfl) rfl (Rd.x (x_move rfl)) ?_
      refine sr_x rfl (wtd_none rfl) rfl (Rd.x (x_assign rfl)) ?_
      refine sr_nil ?_
      refine aw_keep (keep_cons (t := 0) rfl (keep_cons (t := 1) rfl (keep_cons (t := 4) rfl (keep_cons (t := 5) rfl (keep_cons (t := 7) rfl (keep_cons (t := 8) rfl (keep_cons (t := 9) rfl (keep_cons (t := 10) rfl (keep_cons (t := 11) rfl (keep_cons (t := 12) rfl (keep_cons (t := 13) rfl (keep_cons (t := 14) rfl (keep_cons (t := 15) rfl (keep_cons (t := 16) rfl (keep_cons (t := 17) rfl keep_nil))))))))))))))) ?_
      refine aw_ret ?_
      show ∃ v H2, ResV _ _ _ _ _ _ v ∧ Sub H2 _ ∧ _
      exact ⟨_, H, resV rfl (.cons rfl .nil), (by repeat (first | exact Sub.refl _ | apply Sub.drop)), (by first | exact ⟨⟨_, rfl, ⟨fun _ => by (have e : x = y := by assumption); rw [e]; exact List.mem_of_getElem? hy, fun _ => by omega⟩⟩, rfl⟩ | exact ⟨⟨-1, rfl, ⟨fun h => by omega, fun h => by obtain ⟨i, hi⟩ := List.getElem?_of_mem h; exact absurd rfl (hno i x (by have := get_lt hi; omega) hi)⟩⟩, rfl⟩)⟩
    · refine sr_nil ?_
      refine aw_keep (keep_cons (t := 0) rfl (keep_cons (t := 1) rfl (keep_cons (t := 5) rfl (keep_cons (t := 7) rfl (keep_cons (t := 8) rfl (keep_cons (t := 9) rfl (keep_cons (t := 10) rfl (keep_cons (t := 11) rfl (keep_cons (t := 12) rfl (keep_cons (t := 13) rfl (keep_cons (t := 14) rfl (keep_cons (t := 15) rfl (keep_cons (t := 16) rfl keep_nil))))))))))))) ?_
      refine aw_false rfl ?_
      refine aw_skip ?_
      show AW _ _ _ _ _ _ _
      refine aw_region ?_
      refine sr_x rfl (wtd_none rfl) rfl (Rd.x (x_add' rfl rfl (i64w (by omega) (by omega)))) ?_
      refine sr_x rfl (wtd_none rfl) rfl (Rd.x (x_move rfl)) ?_
      refine sr_nil ?_
      show ∃ s', _ ∧ _ ∧ _ ∧ _
      exact ⟨k + 1, ⟨by omega, fun i z h hz => (Nat.lt_or_eq_of_le (Nat.le_of_lt_succ h)).elim (fun h => hno i z h hz) fun e => by subst e; rw [hy] at hz; cases hz; omega⟩, by omega, (by (repeat (first | exact keep_nil | refine keep_cons rfl ?_)); first | done | fail), (by repeat (first | exact Sub.refl _ | apply Sub.drop))⟩
  · refine sr_nil ?_
    refine aw_keep (keep_cons (t := 0) rfl (keep_cons (t := 1) rfl (keep_cons (t := 7) rfl (keep_cons (t := 8) rfl (keep_cons (t := 9) rfl keep_nil))))) ?_
    refine aw_seq ?_
    refine aw_false rfl ?_
    refine aw_exit ?_
    show AW _ _ _ _ _ _ _
    refine aw_seq_region ?_
    refine sr_x rfl (wtd_none rfl) rfl (Rd.x (x_assign rfl)) ?_
    refine sr_nil ?_
    refine aw_keep (keep_cons (t := 4) rfl keep_nil) ?_
    refine aw_ret ?_
    show ∃ v H2, ResV _ _ _ _ _ _ v ∧ Sub H2 _ ∧ _
    exact ⟨_, H, resV rfl (.cons rfl .nil), (by repeat (first | exact Sub.refl _ | apply Sub.drop)), (by first | exact ⟨⟨_, rfl, ⟨fun _ => by (have e : x = y := by assumption); rw [e]; exact List.mem_of_getElem? hy, fun _ => by omega⟩⟩, rfl⟩ | exact ⟨⟨-1, rfl, ⟨fun h => by omega, fun h => by obtain ⟨i, hi⟩ := List.getElem?_of_mem h; exact absurd rfl (hno i x (by have := get_lt hi; omega) hi)⟩⟩, rfl⟩)⟩
set_option maxRecDepth 100000 in
set_option maxHeartbeats 400000 in
theorem contains_s (b n : Nat) (xs : List Int) (x : Int) (H : SHeap) (hn : n = xs.length) (hm : n ≤ 1000000) (hc : Cells W0 H b 0 (xs.map (.int .i64))) : AC Try.prog W0 121 [.slice (some ⟨b, 0, none⟩) n n, .int .i64 x] H (fun v H' => (∃ c : Bool, v = .bool c ∧ (c = true ↔ x ∈ xs)) ∧ H' = H) := by
  refine ac_of Try.func121 rfl rfl rfl ?_
  refine aw_seq_region ?_
  refine sr_x rfl (wtd_none rfl) rfl (Rd.x (x_assign rfl)) ?_
  refine sr_nil ?_
  refine aw_keep (keep_cons (t := 0) rfl (keep_cons (t := 1) rfl (keep_cons (t := 4) rfl keep_nil))) ?_
  refine aw_seq_region ?_
  refine sr_x rfl (wtd_none rfl) rfl (Rd.x (x_move rfl)) ?_
  refine sr_x rfl (wtd_none rfl) rfl (Rd.x (x_move rfl)) ?_
  refine sr_d rfl (wtd_none rfl) rfl (opS_call rfl rfl rfl rfl cl141 (index_s _ _ xs _ _ hn hm (Cells.mono hc (by repeat (first | exact Sub.refl _ | apply Sub.drop))))) ?_
  rintro _ H ⟨⟨i, rfl, hi⟩, rfl⟩
  refine sr_cmp rfl (wtd_none rfl) rfl (Rd.x (x_ge rfl rfl)) (fun h1 => ?_) (fun h1 => ?_)
  · refine sr_x rfl (wtd_none rfl) rfl (Rd.x (x_assign rfl)) ?_
    refine sr_nil ?_
    refine aw_keep (keep_cons (t := 4) rfl keep_nil) ?_
    refine aw_ret ?_
    show ∃ v H2, ResV _ _ _ _ _ _ v ∧ Sub H2 _ ∧ _
    exact ⟨_, H, resV rfl (.cons rfl .nil), (by repeat (first | exact Sub.refl _ | apply Sub.drop)), ⟨⟨_, rfl, by rw [← hi]; simp <;> omega⟩, rfl⟩⟩
  · refine sr_x rfl (wtd_none rfl) rfl (Rd.x (x_assign rfl)) ?_
    refine sr_nil ?_
    refine aw_keep (keep_cons (t := 4) rfl keep_nil) ?_
    refine aw_ret ?_
    show ∃ v H2, ResV _ _ _ _ _ _ v ∧ Sub H2 _ ∧ _
    exact ⟨_, H, resV rfl (.cons rfl .nil), (by repeat (first | exact Sub.refl _ | apply Sub.drop)), ⟨⟨_, rfl, by rw [← hi]; simp <;> omega⟩, rfl⟩⟩
set_option maxRecDepth 100000 in
set_option maxHeartbeats 400000 in
theorem at_s (p : Nat) (a : Option Addr) (cap : Nat) (jobs : List Job) (live : Int) (id : Int) (bs ns : Nat) (sts : List Int) (H : SHeap) (hc : Cells W0 H p 0 (tabC (.slice a jobs.length cap) live)) (hs : SlV W0 H 10 Job.cells a cap jobs) (hn : ns = sts.length) (hm : ns ≤ 1000000) (hcs : Cells W0 H bs 0 (sts.map (.int .i64))) : AC Try.prog W0 100 [.pointer (some ⟨p, 0, none⟩), .int .i64 id, .slice (some ⟨bs, 0, none⟩) ns ns] H (fun v H' => (((id < 1 ∨ jobs.length < id) ∧ v = .tuple #[.pointer none, .int .i64 7]) ∨ (∃ (k : Nat) (j : Job), id = k + 1 ∧ jobs[k]? = some j ∧ ((j.state ∉ sts ∧ v = .tuple #[.pointer none, .int .i64 8]) ∨ (j.state ∈ sts ∧ ∃ bj oj, a = some ⟨bj, oj, none⟩ ∧ v = .tuple #[.pointer (some ⟨bj, oj + k * 10, none⟩), .int .i64 0])))) ∧ H' = H) := by
  have hle := hs.le
  have hcb := hs.capb
  refine ac_of Try.func100 rfl rfl rfl ?_
  refine aw_seq_region ?_
  refine sr_x rfl (wtd_none rfl) rfl (Rd.x (x_assign rfl)) ?_
  refine sr_x rfl (wtd_none rfl) rfl (Rd.x (x_assign rfl)) ?_
  refine sr_nil ?_
  refine aw_keep (keep_cons (t := 0) rfl (keep_cons (t := 1) rfl (keep_cons (t := 2) rfl (keep_cons (t := 6) rfl (keep_cons (t := 7) rfl keep_nil))))) ?_
  refine aw_seq ?_
  refine aw_seq_region ?_
  refine sr_x rfl (wtd_none rfl) rfl (Rd.x (x_move rfl)) ?_
  refine sr_x rfl (wtd_none rfl) rfl (Rd.x (x_move rfl)) ?_
  refine sr_d rfl (wtd_none rfl) rfl (opS_call rfl rfl rfl rfl cl77 (get_s p a cap jobs live _ _ (Cells.mono hc (by repeat (first | exact Sub.refl _ | apply Sub.drop))) (hs.mono (by repeat (first | exact Sub.refl _ | apply Sub.drop))))) ?_
  rintro _ H ⟨hget, rfl⟩
  obtain ⟨hbad, rfl⟩ | ⟨k, j, rfl, hj, rfl⟩ := hget
  · refine sr_x rfl (wtd_none rfl) rfl (Rd.x (x_move rfl)) ?_
    refine sr_x rfl (wtd_none rfl) rfl (Rd.x (x_extract rfl rfl)) ?_
    refine sr_x rfl (wtd_none rfl) rfl (Rd.x (x_extract rfl rfl)) ?_
    refine sr_new rfl (wtd_none rfl) rfl (x_alloc zr91 rfl) ?_
    intro r1_6 hr1_6 gr1_6
    refine sr_x0 rfl (wtd_none rfl) (x_store sz91 rfl rfl rfl rfl rfl (by repeat (first | exact Repl.here | apply Repl.there | apply Repl.app)) (by repeat (first | exact Spl.done | exact Spl.all rfl | apply Spl.put | apply Spl.skip))) ?_
    refine sr_x rfl (wtd_none rfl) rfl (Rd.x (x_assign rfl)) ?_
    refine sr_nil ?_
    refine aw_keep (keep_cons (t := 0) rfl (keep_cons (t := 1) rfl (keep_cons (t := 2) rfl (keep_cons (t := 6) rfl (keep_cons (t := 7) rfl (keep_cons (t := 9) rfl keep_nil)))))) ?_
    refine aw_seq_region ?_
    refine sr_x rfl (wtd_none rfl) rfl (Rd.x (x_move rfl)) ?_
    refine sr_cmp rfl (wtd_none rfl) rfl (Rd.x (x_ne rfl rfl)) (fun h1 => ?_) (fun h1 => absurd (by first | omega | decide) h1)
    refine sr_nil ?_
    refine aw_keep (keep_cons (t := 0) rfl (keep_cons (t := 1) rfl (keep_cons (t := 2) rfl (keep_cons (t := 6) rfl (keep_cons (t := 7) rfl (keep_cons (t := 9) rfl (keep_cons (t := 18) rfl keep_nil))))))) ?_
    refine aw_true rfl ?_
    refine aw_seq_region ?_
    refine sr_x rfl (wtd_none rfl) rfl (Rd.x (x_move rfl)) ?_
    refine sr_x rfl (wtd_none rfl) rfl (Rd.x (x_assign rfl)) ?_
    refine sr_x rfl (wtd_none rfl) rfl (Rd.x (x_assign rfl)) ?_
    refine sr_nil ?_
    refine aw_keep (keep_cons (t := 0) rfl (keep_cons (t := 1) rfl (keep_cons (t := 2) rfl (keep_cons (t := 6) rfl (keep_cons (t := 7) rfl keep_nil))))) ?_
    refine aw_ret ?_
    show ∃ v H2, ResV _ _ _ _ _ _ v ∧ Sub H2 _ ∧ _
    exact ⟨_, H, resV rfl (.cons rfl (.cons rfl .nil)), (by repeat (first | exact Sub.refl _ | apply Sub.drop)), (by first | exact ⟨.inl ⟨hbad, rfl⟩, rfl⟩ | exact ⟨.inr ⟨k, j, rfl, hj, .inl ⟨fun h => (nomatch hc0.2 h), rfl⟩⟩, rfl⟩ | exact ⟨.inr ⟨k, j, rfl, hj, .inr ⟨hc0.1 rfl, bj, oj, haj, rfl⟩⟩, rfl⟩)⟩
  · refine sr_x rfl (wtd_none rfl) rfl (Rd.x (x_move rfl)) ?_
    refine sr_x rfl (wtd_none rfl) rfl (Rd.x (x_extract rfl rfl)) ?_
    refine sr_x rfl (wtd_none rfl) rfl (Rd.x (x_extract rfl rfl)) ?_
    refine sr_new rfl (wtd_none rfl) rfl (x_alloc zr91 rfl) ?_
    intro r1_6 hr1_6 gr1_6
    refine sr_x0 rfl (wtd_none rfl) (x_store sz91 rfl rfl rfl rfl rfl (by repeat (first | exact Repl.here | apply Repl.there | apply Repl.app)) (by repeat (first | exact Spl.done | exact Spl.all rfl | apply Spl.put | apply Spl.skip))) ?_
    refine sr_x rfl (wtd_none rfl) rfl (Rd.x (x_assign rfl)) ?_
    refine sr_nil ?_
    refine aw_keep (keep_cons (t := 0) rfl (keep_cons (t := 1) rfl (keep_cons (t := 2) rfl (keep_cons (t := 6) rfl (keep_cons (t := 7) rfl (keep_cons (t := 9) rfl keep_nil)))))) ?_
    refine aw_seq_region ?_
    refine sr_x rfl (wtd_none rfl) rfl (Rd.x (x_move rfl)) ?_
    refine sr_cmp rfl (wtd_none rfl) rfl (Rd.x (x_ne rfl rfl)) (fun h2 => absurd h2 (by first | omega | decide)) (fun h2 => ?_)
    refine sr_nil ?_
    refine aw_keep (keep_cons (t := 0) rfl (keep_cons (t := 1) rfl (keep_cons (t := 2) rfl (keep_cons (t := 6) rfl (keep_cons (t := 7) rfl (keep_cons (t := 9) rfl (keep_cons (t := 18) rfl keep_nil))))))) ?_
    refine aw_false rfl ?_
    refine aw_skip ?_
    show AW _ _ _ _ _ _ _
    refine aw_seq_region ?_
    have hkl := get_lt hj
    obtain ⟨bj, oj, haj, hcj⟩ := hs.at_ k _ hj
    refine sr_x rfl (wtd_none rfl) rfl (Rd.x (x_move rfl)) ?_
    refine sr_x rfl (wtd_none rfl) rfl (Rd.x (x_nilCheck rfl)) ?_
    refine sr_x rfl (wtd_none rfl) rfl (Rd.x (x_fieldAddr fd168_0 rfl)) ?_
    refine sr_x rfl (wtd_none rfl) rfl (Rd.x (x_load ag22 rfl (cells_get (Cells.mono hc (by repeat (first | exact Sub.refl _ | apply Sub.drop))) 0 rfl))) ?_
    refine sr_x rfl (wtd_none rfl) rfl (Rd.x (x_move rfl)) ?_
    refine sr_x rfl (wtd_none rfl) rfl (Rd.x (x_sub' rfl rfl (i64w (by omega) (by omega)))) ?_
    refine sr_x rfl (wtd_none rfl) rfl (Rd.x (x_indexAddrN k Try.underlying22 sz91 rfl haj rfl (by omega) (by omega))) ?_
    refine sr_x rfl (wtd_none rfl) rfl (Rd.x (x_assign rfl)) ?_
    refine sr_nil ?_
    refine aw_keep (keep_cons (t := 2) rfl (keep_cons (t := 6) rfl (keep_cons (t := 7) rfl (keep_cons (t := 10) rfl keep_nil)))) ?_
    refine aw_seq ?_
    refine aw_seq_region ?_
    refine sr_x rfl (wtd_none rfl) rfl (Rd.x (x_move rfl)) ?_
    refine sr_x rfl (wtd_none rfl) rfl (Rd.x (x_move rfl)) ?_
    refine sr_x rfl (wtd_none rfl) rfl (Rd.x (x_nilCheck rfl)) ?_
    refine sr_x rfl (wtd_none rfl) rfl (Rd.x (x_fieldAddr fd91_5 rfl)) ?_
    refine sr_x rfl (wtd_none rfl) rfl (Rd.x (x_load ag3 rfl (cells_get (Cells.mono hcj (by repeat (first | exact Sub.refl _ | apply Sub.drop))) 5 rfl))) ?_
    refine sr_d rfl (wtd_none rfl) rfl (opS_call rfl rfl rfl rfl cl121 (contains_s _ _ sts _ _ hn hm (Cells.mono hcs (by repeat (first | exact Sub.refl _ | apply Sub.drop))))) ?_
    rintro _ H ⟨⟨c0, rfl, hc0⟩, rfl⟩
    cases c0
    · refine sr_x rfl (wtd_none rfl) rfl (Rd.x (x_not rfl)) ?_
      refine sr_nil ?_
      refine aw_keep (keep_cons (t := 6) rfl (keep_cons (t := 7) rfl (keep_cons (t := 10) rfl (keep_cons (t := 33) rfl keep_nil)))) ?_
      refine aw_true rfl ?_
      refine aw_seq_region ?_
      refine sr_x rfl (wtd_none rfl) rfl (Rd.x (x_assign rfl)) ?_
      refine sr_x rfl (wtd_none rfl) rfl (Rd.x (x_assign rfl)) ?_
      refine sr_nil ?_
      refine aw_keep (keep_cons (t := 6) rfl (keep_cons (t := 7) rfl (keep_cons (t := 10) rfl keep_nil))) ?_
      refine aw_ret ?_
      show ∃ v H2, ResV _ _ _ _ _ _ v ∧ Sub H2 _ ∧ _
      exact ⟨_, H, resV rfl (.cons rfl (.cons rfl .nil)), (by repeat (first | exact Sub.refl _ | apply Sub.drop)), (by first | exact ⟨.inl ⟨hbad, rfl⟩, rfl⟩ | exact ⟨.inr ⟨k, j, rfl, hj, .inl ⟨fun h => (nomatch hc0.2 h), rfl⟩⟩, rfl⟩ | exact ⟨.inr ⟨k, j, rfl, hj, .inr ⟨hc0.1 rfl, bj, oj, haj, rfl⟩⟩, rfl⟩)⟩
    · refine sr_x rfl (wtd_none rfl) rfl (Rd.x (x_not rfl)) ?_
      refine sr_nil ?_
      refine aw_keep (keep_cons (t := 6) rfl (keep_cons (t := 7) rfl (keep_cons (t := 10) rfl (keep_cons (t := 33) rfl keep_nil)))) ?_
      refine aw_false rfl ?_
      refine aw_skip ?_
      show AW _ _ _ _ _ _ _
      refine aw_seq_region ?_
      refine sr_x rfl (wtd_none rfl) rfl (Rd.x (x_move rfl)) ?_
      refine sr_x rfl (wtd_none rfl) rfl (Rd.x (x_assign rfl)) ?_
      refine sr_x rfl (wtd_none rfl) rfl (Rd.x (x_assign rfl)) ?_
      refine sr_nil ?_
      refine aw_keep (keep_cons (t := 6) rfl (keep_cons (t := 7) rfl keep_nil)) ?_
      refine aw_ret ?_
      show ∃ v H2, ResV _ _ _ _ _ _ v ∧ Sub H2 _ ∧ _
      exact ⟨_, H, resV rfl (.cons rfl (.cons rfl .nil)), (by repeat (first | exact Sub.refl _ | apply Sub.drop)), (by first | exact ⟨.inl ⟨hbad, rfl⟩, rfl⟩ | exact ⟨.inr ⟨k, j, rfl, hj, .inl ⟨fun h => (nomatch hc0.2 h), rfl⟩⟩, rfl⟩ | exact ⟨.inr ⟨k, j, rfl, hj, .inr ⟨hc0.1 rfl, bj, oj, haj, rfl⟩⟩, rfl⟩)⟩
set_option maxRecDepth 100000 in
set_option maxHeartbeats 400000 in
theorem submit_s (p : Nat) (a : Option Addr) (cap : Nat) (jobs : List Job) (live : Int) (E G : SHeap) (r : Request) (V : OwnVec 10 91 (.slice a jobs.length cap) jobs.length (jobs.flatMap Job.cells) E) (hjl : jobs.length ≤ 1000000) (hlv : 0 ≤ live ∧ live ≤ 1000000) : AC Try.prog W0 34 [.pointer (some ⟨p, 0, none⟩), r.v] (tab p (.slice a jobs.length cap) live :: (E ++ G)) (fun v H' => ((rightE r ≠ 0 ∧ v = .tuple #[.int .i64 0, .int .i64 (rightE r)] ∧ H' = tab p (.slice a jobs.length cap) live :: (E ++ G)) ∨ (rightE r = 0 ∧ (64 ≤ live ∨ 1024 ≤ jobs.length) ∧ v = .tuple #[.int .i64 0, .int .i64 6] ∧ H' = tab p (.slice a jobs.length cap) live :: (E ++ G)) ∨ (rightE r = 0 ∧ ¬ (64 ≤ live ∨ 1024 ≤ jobs.length) ∧ ∃ sl' E', OwnVec 10 91 sl' (jobs.length + 1) ((jobs ++ [newJob jobs.length r]).flatMap Job.cells) E' ∧ v = .tuple #[.int .i64 (jobs.length + 1), .int .i64 0] ∧ H' = tab p sl' (live + 1) :: (E' ++ G)))) := by
  refine ac_of Try.func34 rfl rfl rfl ?_
  refine aw_seq_region ?_
  refine sr_new rfl (wtd_none rfl) rfl (x_box rfl rfl) ?_
  intro r0_0 hr0_0 gr0_0
  refine sr_x rfl (wtd_none rfl) rfl (Rd.x (x_assign rfl)) ?_
  refine sr_x rfl (wtd_none rfl) rfl (Rd.x (x_assign rfl)) ?_
  refine sr_nil ?_
  refine aw_keep (keep_cons (t := 0) rfl (keep_cons (t := 3) rfl (keep_cons (t := 4) rfl (keep_cons (t := 5) rfl keep_nil)))) ?_
  refine aw_seq ?_
  refine aw_seq_region ?_
  refine sr_x rfl (wtd_none rfl) rfl (Rd.x (x_move rfl)) ?_
  refine sr_d rfl (wtd_none rfl) rfl (opS_call rfl rfl rfl rfl cl99 (none_s _ _ _ _ (cells_ext (by repeat (first | exact List.mem_cons_self | apply List.mem_cons_of_mem | apply List.mem_append_right)) (by repeat (first | exact Ext.all _ | exact Ext.done | apply Ext.take | apply Ext.skip))))) ?_
  rintro _ H ⟨rfl, rfl⟩
  refine sr_nil ?_
  refine aw_keep (keep_cons (t := 0) rfl (keep_cons (t := 3) rfl (keep_cons (t := 4) rfl (keep_cons (t := 5) rfl (keep_cons (t := 9) rfl keep_nil))))) ?_
  refine aw_false rfl ?_
  refine aw_skip ?_
  show AW _ _ _ _ _ _ _
  refine aw_seq ?_
  refine aw_seq_region ?_
  refine sr_x rfl (wtd_none rfl) rfl (Rd.x (x_loadN ag36 sz36 rfl (cells_ext (by repeat (first | exact List.mem_cons_self | apply List.mem_cons_of_mem | apply List.mem_append_right)) (by repeat (first | exact Ext.all _ | exact Ext.done | apply Ext.take | apply Ext.skip))) rfl)) ?_
  refine sr_d rfl (wtd_none rfl) rfl (opS_call rfl rfl rfl rfl cl29 (right29_s _ _)) ?_
  rintro _ H ⟨rfl, rfl⟩
  refine sr_x rfl (wtd_none rfl) rfl (Rd.x (x_assign rfl)) ?_
  refine sr_nil ?_
  refine aw_keep (keep_cons (t := 0) rfl (keep_cons (t := 3) rfl (keep_cons (t := 4) rfl (keep_cons (t := 5) rfl (keep_cons (t := 6) rfl keep_nil))))) ?_
  refine aw_seq_region ?_
  refine sr_x rfl (wtd_none rfl) rfl (Rd.x (x_move rfl)) ?_
  refine sr_cmp rfl (wtd_none rfl) rfl (Rd.x (x_ne rfl rfl)) (fun h1 => ?_) (fun h1 => ?_)
  · refine sr_nil ?_
    refine aw_keep (keep_cons (t := 0) rfl (keep_cons (t := 3) rfl (keep_cons (t := 4) rfl (keep_cons (t := 5) rfl (keep_cons (t := 6) rfl (keep_cons (t := 13) rfl keep_nil)))))) ?_
    refine aw_true rfl ?_
    refine aw_seq_region ?_
    refine sr_x rfl (wtd_none rfl) rfl (Rd.x (x_move rfl)) ?_
    refine sr_x rfl (wtd_none rfl) rfl (Rd.x (x_assign rfl)) ?_
    refine sr_x rfl (wtd_none rfl) rfl (Rd.x (x_assign rfl)) ?_
    refine sr_nil ?_
    refine aw_keep (keep_cons (t := 0) rfl (keep_cons (t := 3) rfl (keep_cons (t := 4) rfl (keep_cons (t := 5) rfl keep_nil)))) ?_
    refine aw_ret ?_
    show ∃ v H2, ResV _ _ _ _ _ _ v ∧ Sub H2 _ ∧ _
    first | exact ⟨_, tab p (.slice a jobs.length cap) live :: (E ++ G), resV rfl (.cons rfl (.cons rfl .nil)), (by repeat (first | exact Sub.refl _ | refine Sub.take (by repeat (first | exact Take.here | apply Take.there | apply Take.app)) ?_ | refine Sub.takeE (by repeat (first | exact TakeE.here | apply TakeE.there | apply TakeE.app)) ?_ | exact Sub.nil _ | apply Sub.drop | apply Sub.dropE)), .inl ⟨by omega, rfl, rfl⟩⟩ | exact ⟨_, tab p (.slice a jobs.length cap) live :: (E ++ G), resV rfl (.cons rfl (.cons rfl .nil)), (by repeat (first | exact Sub.refl _ | refine Sub.take (by repeat (first | exact Take.here | apply Take.there | apply Take.app)) ?_ | refine Sub.takeE (by repeat (first | exact TakeE.here | apply TakeE.there | apply TakeE.app)) ?_ | exact Sub.nil _ | apply Sub.drop | apply Sub.dropE)), .inr (.inl ⟨by omega, by omega, rfl, rfl⟩)⟩ | exact ⟨_, tab p (.slice a53 (jobs.length + 1) cap53) (live + 1) :: (E53 ++ G), resV rfl (.cons rfl (.cons rfl .nil)), (by repeat (first | exact Sub.refl _ | refine Sub.take (by repeat (first | exact Take.here | apply Take.there | apply Take.app)) ?_ | refine Sub.takeE (by repeat (first | exact TakeE.here | apply TakeE.there | apply TakeE.app)) ?_ | exact Sub.nil _ | apply Sub.drop | apply Sub.dropE)), .inr (.inr ⟨by omega, by omega, _, _, by rw [← app_job (j := newJob jobs.length r) (by first | (unfold newJob; rw [if_pos (by assumption)]; done) | (unfold newJob; rw [if_neg (by rw [‹r.held = false›]; exact Bool.false_ne_true)]; done))]; exact hV53, rfl, rfl⟩)⟩
  · refine sr_nil ?_
    refine aw_keep (keep_cons (t := 0) rfl (keep_cons (t := 3) rfl (keep_cons (t := 4) rfl (keep_cons (t := 5) rfl (keep_cons (t := 6) rfl (keep_cons (t := 13) rfl keep_nil)))))) ?_
    refine aw_false rfl ?_
    refine aw_skip ?_
    show AW _ _ _ _ _ _ _
    refine aw_seq ?_
    refine aw_seq_region ?_
    refine sr_x rfl (wtd_none rfl) rfl (Rd.x (x_move rfl)) ?_
    refine sr_x rfl (wtd_none rfl) rfl (Rd.x (x_nilCheck rfl)) ?_
    refine sr_x rfl (wtd_none rfl) rfl (Rd.x (x_fieldAddr fd168_1 rfl)) ?_
    refine sr_x rfl (wtd_none rfl) rfl (Rd.x (x_load ag3 rfl (cells_ext (by repeat (first | exact List.mem_cons_self | apply List.mem_cons_of_mem | apply List.mem_append_right)) (by repeat (first | exact Ext.all _ | exact Ext.done | apply Ext.take | apply Ext.skip))))) ?_
    refine sr_cmp rfl (wtd_none rfl) rfl (Rd.x (x_ge rfl rfl)) (fun h2 => ?_) (fun h2 => ?_)
    · refine sr_x rfl (wtd_none rfl) rfl (Rd.x (x_move rfl)) ?_
      refine sr_skip rfl (wtd_no rfl rfl rfl rfl) rfl ?_
      refine sr_skip rfl (wtd_no rfl rfl rfl rfl) rfl ?_
      refine sr_skip rfl (wtd_no rfl rfl rfl rfl) rfl ?_
      refine sr_skip rfl (wtd_no rfl rfl rfl rfl) rfl ?_
      refine sr_skip rfl (wtd_no rfl rfl rfl rfl) rfl ?_
      refine sr_skip rfl (wtd_no rfl rfl rfl rfl) rfl ?_
      refine sr_x rfl (wtd_none rfl) rfl (Rd.x (x_pick_t rfl rfl rfl)) ?_
      refine sr_nil ?_
      refine aw_keep (keep_cons (t := 0) rfl (keep_cons (t := 3) rfl (keep_cons (t := 4) rfl (keep_cons (t := 5) rfl (keep_cons (t := 27) rfl keep_nil))))) ?_
      refine aw_true rfl ?_
      refine aw_seq_region ?_
      refine sr_x rfl (wtd_none rfl) rfl (Rd.x (x_assign rfl)) ?_
      refine sr_x rfl (wtd_none rfl) rfl (Rd.x (x_assign rfl)) ?_
      refine sr_nil ?_
      refine aw_keep (keep_cons (t := 0) rfl (keep_cons (t := 3) rfl (keep_cons (t := 4) rfl (keep_cons (t := 5) rfl keep_nil)))) ?_
      refine aw_ret ?_
      show ∃ v H2, ResV _ _ _ _ _ _ v ∧ Sub H2 _ ∧ _
      first | exact ⟨_, tab p (.slice a jobs.length cap) live :: (E ++ G), resV rfl (.cons rfl (.cons rfl .nil)), (by repeat (first | exact Sub.refl _ | refine Sub.take (by repeat (first | exact Take.here | apply Take.there | apply Take.app)) ?_ | refine Sub.takeE (by repeat (first | exact TakeE.here | apply TakeE.there | apply TakeE.app)) ?_ | exact Sub.nil _ | apply Sub.drop | apply Sub.dropE)), .inl ⟨by omega, rfl, rfl⟩⟩ | exact ⟨_, tab p (.slice a jobs.length cap) live :: (E ++ G), resV rfl (.cons rfl (.cons rfl .nil)), (by repeat (first | exact Sub.refl _ | refine Sub.take (by repeat (first | exact Take.here | apply Take.there | apply Take.app)) ?_ | refine Sub.takeE (by repeat (first | exact TakeE.here | apply TakeE.there | apply TakeE.app)) ?_ | exact Sub.nil _ | apply Sub.drop | apply Sub.dropE)), .inr (.inl ⟨by omega, by omega, rfl, rfl⟩)⟩ | exact ⟨_, tab p (.slice a53 (jobs.length + 1) cap53) (live + 1) :: (E53 ++ G), resV rfl (.cons rfl (.cons rfl .nil)), (by repeat (first | exact Sub.refl _ | refine Sub.take (by repeat (first | exact Take.here | apply Take.there | apply Take.app)) ?_ | refine Sub.takeE (by repeat (first | exact TakeE.here | apply TakeE.there | apply TakeE.app)) ?_ | exact Sub.nil _ | apply Sub.drop | apply Sub.dropE)), .inr (.inr ⟨by omega, by omega, _, _, by rw [← app_job (j := newJob jobs.length r) (by first | (unfold newJob; rw [if_pos (by assumption)]; done) | (unfold newJob; rw [if_neg (by rw [‹r.held = false›]; exact Bool.false_ne_true)]; done))]; exact hV53, rfl, rfl⟩)⟩
    · refine sr_x rfl (wtd_none rfl) rfl (Rd.x (x_move rfl)) ?_
      refine sr_x rfl (wtd_yes rfl rfl rfl) rfl (Rd.x (x_move rfl)) ?_
      refine sr_x rfl (wtd_yes rfl rfl rfl) rfl (Rd.x (x_nilCheck rfl)) ?_
      refine sr_x rfl (wtd_yes rfl rfl rfl) rfl (Rd.x (x_fieldAddr fd168_0 rfl)) ?_
      refine sr_x rfl (wtd_yes rfl rfl rfl) rfl (Rd.x (x_load ag22 rfl (cells_ext (by repeat (first | exact List.mem_cons_self | apply List.mem_cons_of_mem | apply List.mem_append_right)) (by repeat (first | exact Ext.all _ | exact Ext.done | apply Ext.take | apply Ext.skip))))) ?_
      refine sr_x rfl (wtd_yes rfl rfl rfl) rfl (Rd.x (x_lenSlice Try.underlying22 rfl)) ?_
      refine sr_cmp rfl (wtd_yes rfl rfl rfl) rfl (Rd.x (x_ge rfl rfl)) (fun h3 => ?_) (fun h3 => ?_)
      · refine sr_x rfl (wtd_none rfl) rfl (Rd.x (x_pick_f rfl rfl rfl)) ?_
        refine sr_nil ?_
        refine aw_keep (keep_cons (t := 0) rfl (keep_cons (t := 3) rfl (keep_cons (t := 4) rfl (keep_cons (t := 5) rfl (keep_cons (t := 27) rfl keep_nil))))) ?_
        refine aw_true rfl ?_
        refine aw_seq_region ?_
        refine sr_x rfl (wtd_none rfl) rfl (Rd.x (x_assign rfl)) ?_
        refine sr_x rfl (wtd_none rfl) rfl (Rd.x (x_assign rfl)) ?_
        refine sr_nil ?_
        refine aw_keep (keep_cons (t := 0) rfl (keep_cons (t := 3) rfl (keep_cons (t := 4) rfl (keep_cons (t := 5) rfl keep_nil)))) ?_
        refine aw_ret ?_
        show ∃ v H2, ResV _ _ _ _ _ _ v ∧ Sub H2 _ ∧ _
        first | exact ⟨_, tab p (.slice a jobs.length cap) live :: (E ++ G), resV rfl (.cons rfl (.cons rfl .nil)), (by repeat (first | exact Sub.refl _ | refine Sub.take (by repeat (first | exact Take.here | apply Take.there | apply Take.app)) ?_ | refine Sub.takeE (by repeat (first | exact TakeE.here | apply TakeE.there | apply TakeE.app)) ?_ | exact Sub.nil _ | apply Sub.drop | apply Sub.dropE)), .inl ⟨by omega, rfl, rfl⟩⟩ | exact ⟨_, tab p (.slice a jobs.length cap) live :: (E ++ G), resV rfl (.cons rfl (.cons rfl .nil)), (by repeat (first | exact Sub.refl _ | refine Sub.take (by repeat (first | exact Take.here | apply Take.there | apply Take.app)) ?_ | refine Sub.takeE (by repeat (first | exact TakeE.here | apply TakeE.there | apply TakeE.app)) ?_ | exact Sub.nil _ | apply Sub.drop | apply Sub.dropE)), .inr (.inl ⟨by omega, by omega, rfl, rfl⟩)⟩ | exact ⟨_, tab p (.slice a53 (jobs.length + 1) cap53) (live + 1) :: (E53 ++ G), resV rfl (.cons rfl (.cons rfl .nil)), (by repeat (first | exact Sub.refl _ | refine Sub.take (by repeat (first | exact Take.here | apply Take.there | apply Take.app)) ?_ | refine Sub.takeE (by repeat (first | exact TakeE.here | apply TakeE.there | apply TakeE.app)) ?_ | exact Sub.nil _ | apply Sub.drop | apply Sub.dropE)), .inr (.inr ⟨by omega, by omega, _, _, by rw [← app_job (j := newJob jobs.length r) (by first | (unfold newJob; rw [if_pos (by assumption)]; done) | (unfold newJob; rw [if_neg (by rw [‹r.held = false›]; exact Bool.false_ne_true)]; done))]; exact hV53, rfl, rfl⟩)⟩
      · refine sr_x rfl (wtd_none rfl) rfl (Rd.x (x_pick_f rfl rfl rfl)) ?_
        refine sr_nil ?_
        refine aw_keep (keep_cons (t := 0) rfl (keep_cons (t := 3) rfl (keep_cons (t := 4) rfl (keep_cons (t := 5) rfl (keep_cons (t := 27) rfl keep_nil))))) ?_
        refine aw_false rfl ?_
        refine aw_skip ?_
        show AW _ _ _ _ _ _ _
        refine aw_seq_dr ⟨_, 17, 65, [[], [0], [0, 1], [0, 1, 2], [0, 1, 2, 3], [0, 1, 2, 3, 4], [], [6], [], [8], [], [10], [], [12], [0, 1, 2, 3, 4, 5, 6, 7, 8, 9, 10, 11, 12, 13], [], [0, 1, 2, 3, 4, 5, 6, 7, 8, 9, 10, 11, 12, 13, 14, 15]], [.light, .light, .light, .mem, .light, .light, .light, .mem, .light, .mem, .light, .mem, .light, .mem, .light, .alloc, .eff]⟩ (by kernel_rfl) rfl rfl mix ?_
        refine dr_light rfl rfl (wtd_none rfl) (x_move rfl) ?_
        refine dr_light rfl rfl (wtd_none rfl) (x_nilCheck rfl) ?_
        refine dr_light rfl rfl (wtd_none rfl) (x_fieldAddr fd168_0 rfl) ?_
        refine dr_mem0 rfl rfl (wtd_none rfl) (x_load ag22 rfl (cells_ext (by repeat (first | exact List.mem_cons_self | apply List.mem_cons_of_mem | apply List.mem_append_right)) (by repeat (first | exact Ext.all _ | exact Ext.done | apply Ext.take | apply Ext.skip)))) ?_
        refine dr_light rfl rfl (wtd_none rfl) (x_lenSlice Try.underlying22 rfl) ?_
        refine dr_light rfl rfl (wtd_none rfl) (x_add' rfl rfl (i64w (by omega) (by omega))) ?_
        refine dr_light rfl rfl (wtd_none rfl) (x_fieldAddr fd36_2 rfl) ?_
        refine dr_mem0 rfl rfl (wtd_none rfl) (x_load ag3 rfl (cells_ext (by repeat (first | exact List.mem_cons_self | apply List.mem_cons_of_mem | apply List.mem_append_right)) (by repeat (first | exact Ext.all _ | exact Ext.done | apply Ext.take | apply Ext.skip)))) ?_
        refine dr_light rfl rfl (wtd_none rfl) (x_fieldAddr fd36_3 rfl) ?_
        refine dr_mem0 rfl rfl (wtd_none rfl) (x_load ag3 rfl (cells_ext (by repeat (first | exact List.mem_cons_self | apply List.mem_cons_of_mem | apply List.mem_append_right)) (by repeat (first | exact Ext.all _ | exact Ext.done | apply Ext.take | apply Ext.skip)))) ?_
        refine dr_light rfl rfl (wtd_none rfl) (x_fieldAddr fd36_4 rfl) ?_
        refine dr_mem0 rfl rfl (wtd_none rfl) (x_load ag2 rfl (cells_ext (by repeat (first | exact List.mem_cons_self | apply List.mem_cons_of_mem | apply List.mem_append_right)) (by repeat (first | exact Ext.all _ | exact Ext.done | apply Ext.take | apply Ext.skip)))) ?_
        refine dr_light rfl rfl (wtd_none rfl) (x_fieldAddr fd36_5 rfl) ?_
        refine dr_mem0 rfl rfl (wtd_none rfl) (x_load ag3 rfl (cells_ext (by repeat (first | exact List.mem_cons_self | apply List.mem_cons_of_mem | apply List.mem_append_right)) (by repeat (first | exact Ext.all _ | exact Ext.done | apply Ext.take | apply Ext.skip)))) ?_
        refine dr_light rfl rfl (wtd_none rfl) (x_build zr91 rfl fl91 (by repeat (first | exact Parts.nil | (apply Parts.cons; rfl))) (by repeat (first | exact Fill.done | (apply Fill.part; rfl; rfl; rfl; focus (repeat (first | exact Spl.done | exact Spl.all rfl | apply Spl.put | apply Spl.skip)))))) ?_
        refine dr_alloc rfl rfl (wtd_none rfl) (x_alloc zr91 rfl) ?_
        intro r8_15 hr8_15 gr8_15
        refine dr_store rfl (V := [(r8_15, _)]) rfl (clear_all rfl) rfl (wtd_none rfl) (x_store sz91 rfl rfl rfl rfl rfl (by repeat (first | exact Repl.here | apply Repl.there | apply Repl.app)) (by repeat (first | exact Spl.done | exact Spl.all rfl | apply Spl.put | apply Spl.skip))) (by first | rfl | simp [keys_append, keys_cons]) ?_
        refine dr_nil0 ?_
        refine aw_keep (keep_cons (t := 0) rfl (keep_cons (t := 3) rfl (keep_cons (t := 4) rfl (keep_cons (t := 5) rfl (keep_cons (t := 7) rfl keep_nil))))) ?_
        refine aw_seq ?_
        refine aw_seq_region ?_
        refine sr_x rfl (wtd_none rfl) rfl (Rd.x (x_fieldAddr fd36_6 rfl)) ?_
        refine sr_x rfl (wtd_none rfl) rfl (Rd.x (x_load ag4 rfl (cells_ext (by repeat (first | exact List.mem_cons_self | apply List.mem_cons_of_mem | apply List.mem_append_right)) (by repeat (first | exact Ext.all _ | exact Ext.done | apply Ext.take | apply Ext.skip))))) ?_
        refine sr_nil ?_
        refine aw_keep (keep_cons (t := 0) rfl (keep_cons (t := 4) rfl (keep_cons (t := 5) rfl (keep_cons (t := 7) rfl (keep_cons (t := 44) rfl keep_nil))))) ?_
        refine aw_cond rfl (fun hb4 => ?_) (fun hb4 => ?_)
        · refine aw_region ?_
          refine sr_x rfl (wtd_none rfl) rfl (Rd.x (x_fieldAddr fd91_5 rfl)) ?_
          refine sr_x0 rfl (wtd_none rfl) (x_store sz3 rfl rfl rfl rfl rfl (by repeat (first | exact Repl.here | apply Repl.there | apply Repl.app)) (by repeat (first | exact Spl.done | exact Spl.all rfl | apply Spl.put | apply Spl.skip))) ?_
          refine sr_nil ?_
          show AW _ _ _ _ _ _ _
          refine aw_seq_dr ⟨_, 11, 65, [[], [], [1], [1, 2], [1, 2, 3], [], [5], [1, 2, 3, 4, 5, 6], [0, 1, 2, 3, 4, 5, 6, 7], [0, 1, 2, 3, 4, 5, 6, 7, 8], [0, 1, 2, 3, 4, 5, 6, 7, 8, 9]], [.light, .light, .light, .light, .mem, .mem, .alloc, .eff, .light, .light, .eff]⟩ (by kernel_rfl) rfl rfl mix ?_
          refine dr_light rfl rfl (wtd_none rfl) (x_move rfl) ?_
          refine dr_light rfl rfl (wtd_none rfl) (x_move rfl) ?_
          refine dr_light rfl rfl (wtd_none rfl) (x_nilCheck rfl) ?_
          refine dr_light rfl rfl (wtd_none rfl) (x_fieldAddr fd168_0 rfl) ?_
          refine dr_mem0 rfl rfl (wtd_none rfl) (x_load ag22 rfl (cells_ext (by repeat (first | exact List.mem_cons_self | apply List.mem_cons_of_mem | apply List.mem_append_right)) (by repeat (first | exact Ext.all _ | exact Ext.done | apply Ext.take | apply Ext.skip)))) ?_
          refine dr_mem0 rfl rfl (wtd_none rfl) (x_loadN ag91 sz91 rfl (cells_ext (by repeat (first | exact List.mem_cons_self | apply List.mem_cons_of_mem | apply List.mem_append_right)) (by repeat (first | exact Ext.all _ | exact Ext.done | apply Ext.take | apply Ext.skip))) rfl) ?_
          refine dr_alloc rfl rfl (wtd_none rfl) (x_buildSlice Try.underlying22 sz91 zr91 rfl rfl rfl rfl (by repeat (first | exact Parts.nil | (apply Parts.cons; rfl))) (by repeat (first | exact Fill.done | (apply Fill.part; rfl; rfl; rfl; focus (repeat (first | exact Spl.done | exact Spl.all rfl | apply Spl.put | apply Spl.skip)))))) ?_
          intro r11_6 hr11_6 gr11_6
          refine dr_eff rfl (V := [(r11_6, _)]) rfl (L' := []) (clear_all rfl) rfl (wtd_none rfl) (opSF_append (G := (r8_15, .cells ([.int .i64 (jobs.length + 1), .int .i64 r.user, .int .i64 r.width, .int .i64 r.limit, .int .i64 r.prio, .int .i64 _, .int .i64 (-1), .int .i64 (-1), .int .i64 (-1), .int .u64 0]).toArray 91 (0, 0)) :: (p, .cells (tabC (.slice a jobs.length cap) live).toArray 168 (0, 0)) :: G) (N := [.int .i64 (jobs.length + 1), .int .i64 r.user, .int .i64 r.width, .int .i64 r.limit, .int .i64 r.prio, .int .i64 _, .int .i64 (-1), .int .i64 (-1), .int .i64 (-1), .int .u64 0]) (m := 1) Try.underlying22 sz91 zr91 rfl by91 rfl rfl V (by repeat (first | exact Sub.refl _ | refine Sub.take (by repeat (first | exact Take.here | apply Take.there | apply Take.app)) ?_ | refine Sub.takeE (by repeat (first | exact TakeE.here | apply TakeE.there | apply TakeE.app)) ?_ | exact Sub.nil _ | apply Sub.drop | apply Sub.dropE)) (.inr ⟨_, _, rfl, (cells_ext (by repeat (first | exact List.mem_cons_self | apply List.mem_cons_of_mem | apply List.mem_append_right)) (by repeat (first | exact Ext.all _ | exact Ext.done | apply Ext.take | apply Ext.skip)))⟩) (rfl) rfl (by omega) (by omega)) (append_fresh (G := (r8_15, .cells ([.int .i64 (jobs.length + 1), .int .i64 r.user, .int .i64 r.width, .int .i64 r.limit, .int .i64 r.prio, .int .i64 _, .int .i64 (-1), .int .i64 (-1), .int .i64 (-1), .int .u64 0]).toArray 91 (0, 0)) :: (p, .cells (tabC (.slice a jobs.length cap) live).toArray 168 (0, 0)) :: G) (N := [.int .i64 (jobs.length + 1), .int .i64 r.user, .int .i64 r.width, .int .i64 r.limit, .int .i64 r.prio, .int .i64 _, .int .i64 (-1), .int .i64 (-1), .int .i64 (-1), .int .u64 0]) (m := 1) V (rfl) (by omega) (by repeat (first | exact Sub.refl _ | refine Sub.take (by repeat (first | exact Take.here | apply Take.there | apply Take.app)) ?_ | refine Sub.takeE (by repeat (first | exact TakeE.here | apply TakeE.there | apply TakeE.app)) ?_ | exact Sub.nil _ | apply Sub.drop | apply Sub.dropE))) ?_
          rintro v53 _ ⟨E53, hV53, rfl⟩
          obtain ⟨a53, cap53, rfl⟩ := hV53.isSl
          refine dr_light rfl rfl (wtd_none rfl) (x_nilCheck rfl) ?_
          refine dr_light rfl rfl (wtd_none rfl) (x_fieldAddr fd168_0 rfl) ?_
          refine dr_store0 rfl rfl (wtd_none rfl) (x_store sz22 rfl rfl rfl rfl rfl (by repeat (first | exact Repl.here | apply Repl.there | apply Repl.app)) (by repeat (first | exact Spl.done | exact Spl.all rfl | apply Spl.put | apply Spl.skip))) (by first | rfl | simp [keys_append, keys_cons]) ?_
          refine dr_nil0 ?_
          refine aw_keep (keep_cons (t := 0) rfl (keep_cons (t := 4) rfl (keep_cons (t := 5) rfl (keep_cons (t := 7) rfl keep_nil)))) ?_
          refine aw_seq_region ?_
          refine sr_x rfl (wtd_none rfl) rfl (Rd.x (x_move rfl)) ?_
          refine sr_x rfl (wtd_none rfl) rfl (Rd.x (x_nilCheck rfl)) ?_
          refine sr_x rfl (wtd_none rfl) rfl (Rd.x (x_fieldAddr fd168_1 rfl)) ?_
          refine sr_x rfl (wtd_none rfl) rfl (Rd.x (x_load ag3 rfl (cells_ext (by repeat (first | exact List.mem_cons_self | apply List.mem_cons_of_mem | apply List.mem_append_right)) (by repeat (first | exact Ext.all _ | exact Ext.done | apply Ext.take | apply Ext.skip))))) ?_
          refine sr_x rfl (wtd_none rfl) rfl (Rd.x (x_add' rfl rfl (i64w (by omega) (by omega)))) ?_
          refine sr_x rfl (wtd_none rfl) rfl (Rd.x (x_nilCheck rfl)) ?_
          refine sr_x rfl (wtd_none rfl) rfl (Rd.x (x_fieldAddr fd168_1 rfl)) ?_
          refine sr_x0 rfl (wtd_none rfl) (x_store sz3 rfl rfl rfl rfl rfl (by repeat (first | exact Repl.here | apply Repl.there | apply Repl.app)) (by repeat (first | exact Spl.done | exact Spl.all rfl | apply Spl.put | apply Spl.skip))) ?_
          refine sr_nil ?_
          refine aw_keep (keep_cons (t := 4) rfl (keep_cons (t := 5) rfl (keep_cons (t := 7) rfl keep_nil))) ?_
          refine aw_seq_region ?_
          refine sr_x rfl (wtd_none rfl) rfl (Rd.x (x_fieldAddr fd91_0 rfl)) ?_
          refine sr_x rfl (wtd_none rfl) rfl (Rd.x (x_load ag3 rfl (cells_ext (by repeat (first | exact List.mem_cons_self | apply List.mem_cons_of_mem | apply List.mem_append_right)) (by repeat (first | exact Ext.all _ | exact Ext.done | apply Ext.take | apply Ext.skip))))) ?_
          refine sr_x rfl (wtd_none rfl) rfl (Rd.x (x_assign rfl)) ?_
          refine sr_x rfl (wtd_none rfl) rfl (Rd.x (x_assign rfl)) ?_
          refine sr_nil ?_
          refine aw_keep (keep_cons (t := 4) rfl (keep_cons (t := 5) rfl keep_nil)) ?_
          refine aw_ret ?_
          show ∃ v H2, ResV _ _ _ _ _ _ v ∧ Sub H2 _ ∧ _
          first | exact ⟨_, tab p (.slice a jobs.length cap) live :: (E ++ G), resV rfl (.cons rfl (.cons rfl .nil)), (by repeat (first | exact Sub.refl _ | refine Sub.take (by repeat (first | exact Take.here | apply Take.there | apply Take.app)) ?_ | refine Sub.takeE (by repeat (first | exact TakeE.here | apply TakeE.there | apply TakeE.app)) ?_ | exact Sub.nil _ | apply Sub.drop | apply Sub.dropE)), .inl ⟨by omega, rfl, rfl⟩⟩ | exact ⟨_, tab p (.slice a jobs.length cap) live :: (E ++ G), resV rfl (.cons rfl (.cons rfl .nil)), (by repeat (first | exact Sub.refl _ | refine Sub.take (by repeat (first | exact Take.here | apply Take.there | apply Take.app)) ?_ | refine Sub.takeE (by repeat (first | exact TakeE.here | apply TakeE.there | apply TakeE.app)) ?_ | exact Sub.nil _ | apply Sub.drop | apply Sub.dropE)), .inr (.inl ⟨by omega, by omega, rfl, rfl⟩)⟩ | exact ⟨_, tab p (.slice a53 (jobs.length + 1) cap53) (live + 1) :: (E53 ++ G), resV rfl (.cons rfl (.cons rfl .nil)), (by repeat (first | exact Sub.refl _ | refine Sub.take (by repeat (first | exact Take.here | apply Take.there | apply Take.app)) ?_ | refine Sub.takeE (by repeat (first | exact TakeE.here | apply TakeE.there | apply TakeE.app)) ?_ | exact Sub.nil _ | apply Sub.drop | apply Sub.dropE)), .inr (.inr ⟨by omega, by omega, _, _, by rw [← app_job (j := newJob jobs.length r) (by first | (unfold newJob; rw [if_pos (by assumption)]; done) | (unfold newJob; rw [if_neg (by rw [‹r.held = false›]; exact Bool.false_ne_true)]; done))]; exact hV53, rfl, rfl⟩)⟩
        · refine aw_skip ?_
          show AW _ _ _ _ _ _ _
          refine aw_seq_dr ⟨_, 11, 65, [[], [], [1], [1, 2], [1, 2, 3], [], [5], [1, 2, 3, 4, 5, 6], [0, 1, 2, 3, 4, 5, 6, 7], [0, 1, 2, 3, 4, 5, 6, 7, 8], [0, 1, 2, 3, 4, 5, 6, 7, 8, 9]], [.light, .light, .light, .light, .mem, .mem, .alloc, .eff, .light, .light, .eff]⟩ (by kernel_rfl) rfl rfl mix ?_
          refine dr_light rfl rfl (wtd_none rfl) (x_move rfl) ?_
          refine dr_light rfl rfl (wtd_none rfl) (x_move rfl) ?_
          refine dr_light rfl rfl (wtd_none rfl) (x_nilCheck rfl) ?_
          refine dr_light rfl rfl (wtd_none rfl) (x_fieldAddr fd168_0 rfl) ?_
          refine dr_mem0 rfl rfl (wtd_none rfl) (x_load ag22 rfl (cells_ext (by repeat (first | exact List.mem_cons_self | apply List.mem_cons_of_mem | apply List.mem_append_right)) (by repeat (first | exact Ext.all _ | exact Ext.done | apply Ext.take | apply Ext.skip)))) ?_
          refine dr_mem0 rfl rfl (wtd_none rfl) (x_loadN ag91 sz91 rfl (cells_ext (by repeat (first | exact List.mem_cons_self | apply List.mem_cons_of_mem | apply List.mem_append_right)) (by repeat (first | exact Ext.all _ | exact Ext.done | apply Ext.take | apply Ext.skip))) rfl) ?_
          refine dr_alloc rfl rfl (wtd_none rfl) (x_buildSlice Try.underlying22 sz91 zr91 rfl rfl rfl rfl (by repeat (first | exact Parts.nil | (apply Parts.cons; rfl))) (by repeat (first | exact Fill.done | (apply Fill.part; rfl; rfl; rfl; focus (repeat (first | exact Spl.done | exact Spl.all rfl | apply Spl.put | apply Spl.skip)))))) ?_
          intro r11_6 hr11_6 gr11_6
          refine dr_eff rfl (V := [(r11_6, _)]) rfl (L' := []) (clear_all rfl) rfl (wtd_none rfl) (opSF_append (G := (r8_15, .cells ([.int .i64 (jobs.length + 1), .int .i64 r.user, .int .i64 r.width, .int .i64 r.limit, .int .i64 r.prio, .int .i64 _, .int .i64 (-1), .int .i64 (-1), .int .i64 (-1), .int .u64 0]).toArray 91 (0, 0)) :: (p, .cells (tabC (.slice a jobs.length cap) live).toArray 168 (0, 0)) :: G) (N := [.int .i64 (jobs.length + 1), .int .i64 r.user, .int .i64 r.width, .int .i64 r.limit, .int .i64 r.prio, .int .i64 _, .int .i64 (-1), .int .i64 (-1), .int .i64 (-1), .int .u64 0]) (m := 1) Try.underlying22 sz91 zr91 rfl by91 rfl rfl V (by repeat (first | exact Sub.refl _ | refine Sub.take (by repeat (first | exact Take.here | apply Take.there | apply Take.app)) ?_ | refine Sub.takeE (by repeat (first | exact TakeE.here | apply TakeE.there | apply TakeE.app)) ?_ | exact Sub.nil _ | apply Sub.drop | apply Sub.dropE)) (.inr ⟨_, _, rfl, (cells_ext (by repeat (first | exact List.mem_cons_self | apply List.mem_cons_of_mem | apply List.mem_append_right)) (by repeat (first | exact Ext.all _ | exact Ext.done | apply Ext.take | apply Ext.skip)))⟩) (rfl) rfl (by omega) (by omega)) (append_fresh (G := (r8_15, .cells ([.int .i64 (jobs.length + 1), .int .i64 r.user, .int .i64 r.width, .int .i64 r.limit, .int .i64 r.prio, .int .i64 _, .int .i64 (-1), .int .i64 (-1), .int .i64 (-1), .int .u64 0]).toArray 91 (0, 0)) :: (p, .cells (tabC (.slice a jobs.length cap) live).toArray 168 (0, 0)) :: G) (N := [.int .i64 (jobs.length + 1), .int .i64 r.user, .int .i64 r.width, .int .i64 r.limit, .int .i64 r.prio, .int .i64 _, .int .i64 (-1), .int .i64 (-1), .int .i64 (-1), .int .u64 0]) (m := 1) V (rfl) (by omega) (by repeat (first | exact Sub.refl _ | refine Sub.take (by repeat (first | exact Take.here | apply Take.there | apply Take.app)) ?_ | refine Sub.takeE (by repeat (first | exact TakeE.here | apply TakeE.there | apply TakeE.app)) ?_ | exact Sub.nil _ | apply Sub.drop | apply Sub.dropE))) ?_
          rintro v53 _ ⟨E53, hV53, rfl⟩
          obtain ⟨a53, cap53, rfl⟩ := hV53.isSl
          refine dr_light rfl rfl (wtd_none rfl) (x_nilCheck rfl) ?_
          refine dr_light rfl rfl (wtd_none rfl) (x_fieldAddr fd168_0 rfl) ?_
          refine dr_store0 rfl rfl (wtd_none rfl) (x_store sz22 rfl rfl rfl rfl rfl (by repeat (first | exact Repl.here | apply Repl.there | apply Repl.app)) (by repeat (first | exact Spl.done | exact Spl.all rfl | apply Spl.put | apply Spl.skip))) (by first | rfl | simp [keys_append, keys_cons]) ?_
          refine dr_nil0 ?_
          refine aw_keep (keep_cons (t := 0) rfl (keep_cons (t := 4) rfl (keep_cons (t := 5) rfl (keep_cons (t := 7) rfl keep_nil)))) ?_
          refine aw_seq_region ?_
          refine sr_x rfl (wtd_none rfl) rfl (Rd.x (x_move rfl)) ?_
          refine sr_x rfl (wtd_none rfl) rfl (Rd.x (x_nilCheck rfl)) ?_
          refine sr_x rfl (wtd_none rfl) rfl (Rd.x (x_fieldAddr fd168_1 rfl)) ?_
          refine sr_x rfl (wtd_none rfl) rfl (Rd.x (x_load ag3 rfl (cells_ext (by repeat (first | exact List.mem_cons_self | apply List.mem_cons_of_mem | apply List.mem_append_right)) (by repeat (first | exact Ext.all _ | exact Ext.done | apply Ext.take | apply Ext.skip))))) ?_
          refine sr_x rfl (wtd_none rfl) rfl (Rd.x (x_add' rfl rfl (i64w (by omega) (by omega)))) ?_
          refine sr_x rfl (wtd_none rfl) rfl (Rd.x (x_nilCheck rfl)) ?_
          refine sr_x rfl (wtd_none rfl) rfl (Rd.x (x_fieldAddr fd168_1 rfl)) ?_
          refine sr_x0 rfl (wtd_none rfl) (x_store sz3 rfl rfl rfl rfl rfl (by repeat (first | exact Repl.here | apply Repl.there | apply Repl.app)) (by repeat (first | exact Spl.done | exact Spl.all rfl | apply Spl.put | apply Spl.skip))) ?_
          refine sr_nil ?_
          refine aw_keep (keep_cons (t := 4) rfl (keep_cons (t := 5) rfl (keep_cons (t := 7) rfl keep_nil))) ?_
          refine aw_seq_region ?_
          refine sr_x rfl (wtd_none rfl) rfl (Rd.x (x_fieldAddr fd91_0 rfl)) ?_
          refine sr_x rfl (wtd_none rfl) rfl (Rd.x (x_load ag3 rfl (cells_ext (by repeat (first | exact List.mem_cons_self | apply List.mem_cons_of_mem | apply List.mem_append_right)) (by repeat (first | exact Ext.all _ | exact Ext.done | apply Ext.take | apply Ext.skip))))) ?_
          refine sr_x rfl (wtd_none rfl) rfl (Rd.x (x_assign rfl)) ?_
          refine sr_x rfl (wtd_none rfl) rfl (Rd.x (x_assign rfl)) ?_
          refine sr_nil ?_
          refine aw_keep (keep_cons (t := 4) rfl (keep_cons (t := 5) rfl keep_nil)) ?_
          refine aw_ret ?_
          show ∃ v H2, ResV _ _ _ _ _ _ v ∧ Sub H2 _ ∧ _
          first | exact ⟨_, tab p (.slice a jobs.length cap) live :: (E ++ G), resV rfl (.cons rfl (.cons rfl .nil)), (by repeat (first | exact Sub.refl _ | refine Sub.take (by repeat (first | exact Take.here | apply Take.there | apply Take.app)) ?_ | refine Sub.takeE (by repeat (first | exact TakeE.here | apply TakeE.there | apply TakeE.app)) ?_ | exact Sub.nil _ | apply Sub.drop | apply Sub.dropE)), .inl ⟨by omega, rfl, rfl⟩⟩ | exact ⟨_, tab p (.slice a jobs.length cap) live :: (E ++ G), resV rfl (.cons rfl (.cons rfl .nil)), (by repeat (first | exact Sub.refl _ | refine Sub.take (by repeat (first | exact Take.here | apply Take.there | apply Take.app)) ?_ | refine Sub.takeE (by repeat (first | exact TakeE.here | apply TakeE.there | apply TakeE.app)) ?_ | exact Sub.nil _ | apply Sub.drop | apply Sub.dropE)), .inr (.inl ⟨by omega, by omega, rfl, rfl⟩)⟩ | exact ⟨_, tab p (.slice a53 (jobs.length + 1) cap53) (live + 1) :: (E53 ++ G), resV rfl (.cons rfl (.cons rfl .nil)), (by repeat (first | exact Sub.refl _ | refine Sub.take (by repeat (first | exact Take.here | apply Take.there | apply Take.app)) ?_ | refine Sub.takeE (by repeat (first | exact TakeE.here | apply TakeE.there | apply TakeE.app)) ?_ | exact Sub.nil _ | apply Sub.drop | apply Sub.dropE)), .inr (.inr ⟨by omega, by omega, _, _, by rw [← app_job (j := newJob jobs.length r) (by first | (unfold newJob; rw [if_pos (by assumption)]; done) | (unfold newJob; rw [if_neg (by rw [‹r.held = false›]; exact Bool.false_ne_true)]; done))]; exact hV53, rfl, rfl⟩)⟩
set_option maxRecDepth 100000 in
theorem read_Job {H : Type} {enc : TypeId × Value → H} {w : World} {base : Nat} {spare : Nat → Bool} {held : Bool} {fuel : Nat} {cs : List Value} {x : DataW H × List MemPlace} (h : DataW.trod enc Try.prog w base spare held fuel 91 cs = some x) : ∃ j : Job, cs = j.cells ∧ j.Wf := by
  obtain ⟨hlen, n, hf⟩ := read_struct Try.underlying91 h
  rw [cells91] at hlen
  obtain ⟨a0, e0, l0, u0⟩ := read_int Try.underlying3 cells3 (hf 0 _ rfl)
  obtain ⟨a1, e1, l1, u1⟩ := read_int Try.underlying3 cells3 (hf 1 _ rfl)
  obtain ⟨a2, e2, l2, u2⟩ := read_int Try.underlying3 cells3 (hf 2 _ rfl)
  obtain ⟨a3, e3, l3, u3⟩ := read_int Try.underlying2 cells2 (hf 3 _ rfl)
  obtain ⟨a4, e4, l4, u4⟩ := read_int Try.underlying3 cells3 (hf 4 _ rfl)
  obtain ⟨a5, e5, l5, u5⟩ := read_int Try.underlying3 cells3 (hf 5 _ rfl)
  obtain ⟨a6, e6, l6, u6⟩ := read_int Try.underlying2 cells2 (hf 6 _ rfl)
  obtain ⟨a7, e7, l7, u7⟩ := read_int Try.underlying2 cells2 (hf 7 _ rfl)
  obtain ⟨a8, e8, l8, u8⟩ := read_int Try.underlying2 cells2 (hf 8 _ rfl)
  obtain ⟨a9, e9, l9, u9⟩ := read_int Try.underlying51 cells51 (hf 9 _ rfl)
  refine ⟨⟨a0, a1, a2, a3, a4, a5, a6, a7, a8, a9⟩, ?_, ⟨l0, u0, l1, u1, l2, u2, l3, u3, l4, u4, l5, u5, l6, u6, l7, u7, l8, u8, l9, u9⟩⟩
  apply List.ext_getElem?
  intro i
  match i with
  | 0 => exact e0
  | 1 => exact e1
  | 2 => exact e2
  | 3 => exact e3
  | 4 => exact e4
  | 5 => exact e5
  | 6 => exact e6
  | 7 => exact e7
  | 8 => exact e8
  | 9 => exact e9
  | i + 10 => rw [List.getElem?_eq_none (by omega), List.getElem?_eq_none (by simp)]
set_option maxRecDepth 100000 in
theorem open_Job {H : Type} {enc : TypeId × Value → H} {w : World} {base b0 : Nat} {spare : Nat → Bool} {held : Bool} {v : Value} {d : DataW H} {p : List MemPlace} {r : Reach} (hv : Value.okWide Try.prog w r b0 91 v) (h : DataW.Trod enc Try.prog w base spare held 91 v d p) : ∃ j : Job, v = j.v ∧ j.Wf := by
  obtain ⟨cs, rfl, _⟩ := Go.WideShapes.okWide_struct Try.underlying91 hv
  obtain ⟨fuel, hf⟩ := h
  obtain ⟨j, h1, h2⟩ := read_Job hf
  refine ⟨j, ?_, h2⟩
  have : cs = j.cells.toArray := by apply Array.toList_inj.1; exact h1
  rw [this]
set_option maxRecDepth 100000 in
theorem read_Request {H : Type} {enc : TypeId × Value → H} {w : World} {base : Nat} {spare : Nat → Bool} {held : Bool} {fuel : Nat} {cs : List Value} {x : DataW H × List MemPlace} (h : DataW.trod enc Try.prog w base spare held fuel 36 cs = some x) : ∃ j : Request, cs = j.cells ∧ j.Wf := by
  obtain ⟨hlen, n, hf⟩ := read_struct Try.underlying36 h
  rw [cells36] at hlen
  obtain ⟨a0, e0, l0, u0⟩ := read_int Try.underlying3 cells3 (hf 0 _ rfl)
  obtain ⟨a1, e1, l1, u1⟩ := read_int Try.underlying3 cells3 (hf 1 _ rfl)
  obtain ⟨a2, e2, l2, u2⟩ := read_int Try.underlying3 cells3 (hf 2 _ rfl)
  obtain ⟨a3, e3, l3, u3⟩ := read_int Try.underlying3 cells3 (hf 3 _ rfl)
  obtain ⟨a4, e4, l4, u4⟩ := read_int Try.underlying2 cells2 (hf 4 _ rfl)
  obtain ⟨a5, e5, l5, u5⟩ := read_int Try.underlying3 cells3 (hf 5 _ rfl)
  obtain ⟨a6, e6⟩ := read_bool Try.underlying4 cells4 (hf 6 _ rfl)
  obtain ⟨a7, e7, l7, u7⟩ := read_int Try.underlying3 cells3 (hf 7 _ rfl)
  obtain ⟨a8, e8, l8, u8⟩ := read_int Try.underlying2 cells2 (hf 8 _ rfl)
  refine ⟨⟨a0, a1, a2, a3, a4, a5, a6, a7, a8⟩, ?_, ⟨l0, u0, l1, u1, l2, u2, l3, u3, l4, u4, l5, u5, l7, u7, l8, u8⟩⟩
  apply List.ext_getElem?
  intro i
  match i with
  | 0 => exact e0
  | 1 => exact e1
  | 2 => exact e2
  | 3 => exact e3
  | 4 => exact e4
  | 5 => exact e5
  | 6 => exact e6
  | 7 => exact e7
  | 8 => exact e8
  | i + 9 => rw [List.getElem?_eq_none (by omega), List.getElem?_eq_none (by simp)]
set_option maxRecDepth 100000 in
theorem open_Request {H : Type} {enc : TypeId × Value → H} {w : World} {base b0 : Nat} {spare : Nat → Bool} {held : Bool} {v : Value} {d : DataW H} {p : List MemPlace} {r : Reach} (hv : Value.okWide Try.prog w r b0 36 v) (h : DataW.Trod enc Try.prog w base spare held 36 v d p) : ∃ j : Request, v = j.v ∧ j.Wf := by
  obtain ⟨cs, rfl, _⟩ := Go.WideShapes.okWide_struct Try.underlying36 hv
  obtain ⟨fuel, hf⟩ := h
  obtain ⟨j, h1, h2⟩ := read_Request hf
  refine ⟨j, ?_, h2⟩
  have : cs = j.cells.toArray := by apply Array.toList_inj.1; exact h1
  rw [this]
end
end Go.Proofs.Yteilocpjikmmdaa
