/- Rules: how long one waits, and the limit, after any times. -/
import Derived.Test.YteilocpjikmmdaaQuo
import Derived.Test.YteilocpjikmmdaaSymMake
namespace Go.Proofs.Yteilocpjikmmdaa
open Go.Proofs.Yteilocpjikmmdaa.Sym
open Go.RowKit (Below)
set_option linter.unusedVariables false
set_option linter.unusedSimpArgs false
structure Rule where
  most : Int
  timed : Bool
  cancel : Bool
  wait : Int
  grow : Int
@[reducible] def Rule.cells (j : Rule) : List Value := [.int .i64 j.most, .bool j.timed, .bool j.cancel, .int .i64 j.wait, .int .i64 j.grow]
@[reducible] def Rule.v (j : Rule) : Value := .agg (Rule.cells j).toArray
def Rule.Wf (j : Rule) : Prop := (IntKind.min .i64 ≤ j.most ∧ j.most ≤ IntKind.max .i64) ∧ (IntKind.min .i64 ≤ j.wait ∧ j.wait ≤ IntKind.max .i64) ∧ (IntKind.min .i64 ≤ j.grow ∧ j.grow ≤ IntKind.max .i64)
abbrev RRight (r : Rule) : Prop := (0 ≤ r.most ∧ r.most ≤ 100) ∧ (0 ≤ r.wait ∧ r.wait ≤ 1048576) ∧ (0 ≤ r.grow ∧ r.grow ≤ 1000)
def dblN (w : Int) : Nat → Int
  | 0 => w
  | k + 1 => satAdd [dblN w k, dblN w k]
def waitL (r : Rule) (tries : Int) : Int := dblN r.wait (min (max tries 0) 64).toNat
theorem waitL_at {r : Rule} {tries : Int} {k : Nat} (h : (k : Int) = min (max tries 0) 64) : dblN r.wait k = waitL r tries := by unfold waitL; congr 1; omega
def stepL (g v : Int) : Int := min (satCeil (satMul v (100 + max g 0)) 100) 1048576
def limN (g v : Int) : Nat → Int
  | 0 => max (min v (max 1 1048576)) 1
  | k + 1 => stepL g (limN g v k)
def limitL (r : Rule) (v tries : Int) : Int := limN r.grow v ((min (max tries 0) 127).toNat + 1)
theorem limitL_at {r : Rule} {v tries : Int} {k : Nat} (h : (k : Int) = min (max tries 0) 127 + 1) : limN r.grow v k = limitL r v tries := by unfold limitL; congr 1; omega
theorem satMul_in {v g : Int} (hv : 1 ≤ v ∧ v ≤ 1048576) (hg : 0 ≤ g ∧ g ≤ 1000) : satMul v (100 + max g 0) = v * (100 + g) ∧ 100 ≤ v * (100 + g) ∧ v * (100 + g) ≤ 1048576 * 1100 := by
  have h1 : v * (100 + g) ≤ 1048576 * 1100 := Int.mul_le_mul hv.2 (by omega) (by omega) (by omega)
  have h2 : 1 * 100 ≤ v * (100 + g) := Int.mul_le_mul hv.1 (by omega) (by omega) (by omega)
  refine ⟨?_, by omega, h1⟩
  unfold satMul
  rw [show max v 0 = v by omega, show max (100 + max g 0) 0 = 100 + g by omega, if_neg]
  rintro ⟨h3, h4⟩
  have h5 : (1152921504606846976 : Int) / v < 100 + g := by rwa [Int.tdiv_eq_ediv_of_nonneg (by omega)] at h4
  have h6 := (Int.ediv_lt_iff_lt_mul (by omega)).1 h5
  have h7 : (100 + g) * v = v * (100 + g) := Int.mul_comm _ _
  omega
theorem stepL_in {v g : Int} (hv : 1 ≤ v ∧ v ≤ 1048576) (hg : 0 ≤ g ∧ g ≤ 1000) : 1 ≤ stepL g v ∧ stepL g v ≤ 1048576 := by
  obtain ⟨h1, h2, h3⟩ := satMul_in hv hg
  unfold stepL satCeil
  rw [h1, if_neg (by omega), Int.tdiv_eq_ediv_of_nonneg (by omega)]
  omega
theorem limN_in {g v : Int} (hg : 0 ≤ g ∧ g ≤ 1000) : ∀ k, 1 ≤ limN g v k ∧ limN g v k ≤ 1048576
  | 0 => by unfold limN; omega
  | k + 1 => by unfold limN; exact stepL_in (limN_in hg k) hg
/-- The law's own step. -/
theorem stepL_law {v g : Int} (hv : 1 ≤ v ∧ v ≤ 1048576) (hg : 0 ≤ g ∧ g ≤ 1000) : stepL g v = min ((v * (100 + g)).tdiv 100 + (if 0 < (v * (100 + g)).tmod 100 then 1 else 0)) 1048576 := by
  obtain ⟨h1, h2, h3⟩ := satMul_in hv hg
  unfold stepL satCeil
  rw [h1, if_neg (by omega), Int.tdiv_eq_ediv_of_nonneg (by omega), Int.tdiv_eq_ediv_of_nonneg (by omega), Int.tmod_eq_emod_of_nonneg (by omega)]
  generalize v * (100 + g) = x at h2 h3
  split <;> omega
abbrev AgainP (r : Rule) (j : Job) (tries : Int) : Prop := RRight r ∧ (0 ≤ tries ∧ tries < r.most) ∧ (0 ≤ j.fin ∧ j.fin ≤ 2199023255552) ∧ ((j.state = 6 ∧ r.timed = true) ∨ (j.state = 5 ∧ r.cancel = true))
def againV (r : Rule) (j : Job) (tries : Int) : Value := if AgainP r j tries then .tuple #[.int .i64 (satAdd [j.fin, waitL r tries]), .int .i64 (limitL r j.limit tries), .bool true] else .tuple #[.int .i64 0, .int .i64 0, .bool false]
theorem ag89 : aggOf Try.prog 89 = some true := by kernel_rfl
theorem cells89 : Try.prog.cellsOf 89 = 5 := by kernel_rfl
theorem cl112 : Callable Try.prog 112 := ⟨Try.f112, Try.func112, by kernel_rfl, by kernel_rfl⟩
theorem cl113 : Callable Try.prog 113 := ⟨Try.f113, Try.func113, by kernel_rfl, by kernel_rfl⟩
theorem cl54 : Callable Try.prog 54 := ⟨Try.f54, Try.func54, by kernel_rfl, by kernel_rfl⟩
theorem cl55 : Callable Try.prog 55 := ⟨Try.f55, Try.func55, by kernel_rfl, by kernel_rfl⟩
theorem cl62 : Callable Try.prog 62 := ⟨Try.f62, Try.func62, by kernel_rfl, by kernel_rfl⟩
theorem cl63 : Callable Try.prog 63 := ⟨Try.f63, Try.func63, by kernel_rfl, by kernel_rfl⟩
theorem fd89_0 : fldOf Try.prog 89 0 = some (0, 3, 1) := by kernel_rfl
theorem fd89_1 : fldOf Try.prog 89 1 = some (1, 4, 1) := by kernel_rfl
theorem fd89_2 : fldOf Try.prog 89 2 = some (2, 4, 1) := by kernel_rfl
theorem fd89_3 : fldOf Try.prog 89 3 = some (3, 2, 1) := by kernel_rfl
theorem fd89_4 : fldOf Try.prog 89 4 = some (4, 3, 1) := by kernel_rfl
theorem fd91_7 : fldOf Try.prog 91 7 = some (7, 2, 1) := by kernel_rfl
theorem sz89 : szOf Try.prog 89 = some 5 := by kernel_rfl
section
variable {W0 : World}
set_option maxRecDepth 100000 in
set_option maxHeartbeats 400000 in
theorem satClamp_s (a b c : Int) (H : SHeap) : AC Try.prog W0 112 [.int .i64 a, .int .i64 b, .int .i64 c] H (fun v H' => v = .int .i64 (max (min a (max b c)) b) ∧ H' = H) := by
  refine ac_of Try.func112 rfl rfl rfl ?_
  refine aw_seq_region ?_
  refine sr_x rfl (wtd_none rfl) rfl (Rd.x (x_assign rfl)) ?_
  refine sr_nil ?_
  refine aw_keep (keep_cons (t := 0) rfl (keep_cons (t := 1) rfl (keep_cons (t := 2) rfl (keep_cons (t := 6) rfl keep_nil)))) ?_
  refine aw_seq_region ?_
  refine sr_x rfl (wtd_none rfl) rfl (Rd.x (x_move rfl)) ?_
  refine sr_x rfl (wtd_none rfl) rfl (Rd.x (x_move rfl)) ?_
  refine sr_x rfl (wtd_none rfl) rfl (Rd.x (x_move rfl)) ?_
  refine sr_x rfl (wtd_none rfl) rfl (Rd.x (x_max rfl rfl)) ?_
  refine sr_x rfl (wtd_none rfl) rfl (Rd.x (x_min rfl rfl)) ?_
  refine sr_x rfl (wtd_none rfl) rfl (Rd.x (x_move rfl)) ?_
  refine sr_x rfl (wtd_none rfl) rfl (Rd.x (x_max rfl rfl)) ?_
  refine sr_x rfl (wtd_none rfl) rfl (Rd.x (x_assign rfl)) ?_
  refine sr_nil ?_
  refine aw_keep (keep_cons (t := 6) rfl keep_nil) ?_
  refine aw_ret ?_
  show ∃ v H2, ResV _ _ _ _ _ _ v ∧ Sub H2 _ ∧ _
  exact ⟨_, H, resV rfl (.cons rfl .nil), (by repeat (first | exact Sub.refl _ | apply Sub.drop)), ⟨rfl, rfl⟩⟩
set_option maxRecDepth 100000 in
set_option maxHeartbeats 400000 in
theorem satCeil_s (a b : Int) (H : SHeap) (ha : a ≤ 9223372036854775807) : AC Try.prog W0 113 [.int .i64 a, .int .i64 b] H (fun v H' => v = .int .i64 (satCeil a b) ∧ H' = H) := by
  refine ac_of Try.func113 rfl rfl rfl ?_
  refine aw_seq_region ?_
  refine sr_x rfl (wtd_none rfl) rfl (Rd.x (x_assign rfl)) ?_
  refine sr_nil ?_
  refine aw_keep (keep_cons (t := 0) rfl (keep_cons (t := 1) rfl (keep_cons (t := 4) rfl keep_nil))) ?_
  refine aw_seq ?_
  refine aw_seq_region ?_
  refine sr_x rfl (wtd_none rfl) rfl (Rd.x (x_move rfl)) ?_
  refine sr_cmp rfl (wtd_none rfl) rfl (Rd.x (x_lt rfl rfl)) (fun h1 => ?_) (fun h1 => ?_)
  · refine sr_x rfl (wtd_none rfl) rfl (Rd.x (x_move rfl)) ?_
    refine sr_skip rfl (wtd_no rfl rfl rfl rfl) rfl ?_
    refine sr_skip rfl (wtd_no rfl rfl rfl rfl) rfl ?_
    refine sr_x rfl (wtd_none rfl) rfl (Rd.x (x_pick_t rfl rfl rfl)) ?_
    refine sr_nil ?_
    refine aw_keep (keep_cons (t := 0) rfl (keep_cons (t := 1) rfl (keep_cons (t := 4) rfl (keep_cons (t := 10) rfl keep_nil)))) ?_
    refine aw_true rfl ?_
    refine aw_seq_region ?_
    refine sr_x rfl (wtd_none rfl) rfl (Rd.x (x_assign rfl)) ?_
    refine sr_nil ?_
    refine aw_keep (keep_cons (t := 0) rfl (keep_cons (t := 1) rfl (keep_cons (t := 4) rfl keep_nil))) ?_
    refine aw_ret ?_
    show ∃ v H2, ResV _ _ _ _ _ _ v ∧ Sub H2 _ ∧ _
    exact ⟨_, H, resV rfl (.cons rfl .nil), (by repeat (first | exact Sub.refl _ | apply Sub.drop)), ⟨congrArg (Value.int .i64) (by unfold satCeil; first | rw [if_pos (by omega)] | rw [if_neg (by omega)]), rfl⟩⟩
  · refine sr_x rfl (wtd_none rfl) rfl (Rd.x (x_move rfl)) ?_
    refine sr_x rfl (wtd_yes rfl rfl rfl) rfl (Rd.x (x_move rfl)) ?_
    refine sr_cmp rfl (wtd_yes rfl rfl rfl) rfl (Rd.x (x_lt rfl rfl)) (fun h2 => ?_) (fun h2 => ?_)
    · refine sr_x rfl (wtd_none rfl) rfl (Rd.x (x_pick_f rfl rfl rfl)) ?_
      refine sr_nil ?_
      refine aw_keep (keep_cons (t := 0) rfl (keep_cons (t := 1) rfl (keep_cons (t := 4) rfl (keep_cons (t := 10) rfl keep_nil)))) ?_
      refine aw_true rfl ?_
      refine aw_seq_region ?_
      refine sr_x rfl (wtd_none rfl) rfl (Rd.x (x_assign rfl)) ?_
      refine sr_nil ?_
      refine aw_keep (keep_cons (t := 0) rfl (keep_cons (t := 1) rfl (keep_cons (t := 4) rfl keep_nil))) ?_
      refine aw_ret ?_
      show ∃ v H2, ResV _ _ _ _ _ _ v ∧ Sub H2 _ ∧ _
      exact ⟨_, H, resV rfl (.cons rfl .nil), (by repeat (first | exact Sub.refl _ | apply Sub.drop)), ⟨congrArg (Value.int .i64) (by unfold satCeil; first | rw [if_pos (by omega)] | rw [if_neg (by omega)]), rfl⟩⟩
    · refine sr_x rfl (wtd_none rfl) rfl (Rd.x (x_pick_f rfl rfl rfl)) ?_
      refine sr_nil ?_
      refine aw_keep (keep_cons (t := 0) rfl (keep_cons (t := 1) rfl (keep_cons (t := 4) rfl (keep_cons (t := 10) rfl keep_nil)))) ?_
      refine aw_false rfl ?_
      refine aw_skip ?_
      show AW _ _ _ _ _ _ _
      refine aw_seq_region ?_
      refine sr_x rfl (wtd_none rfl) rfl (Rd.x (x_move rfl)) ?_
      refine sr_x rfl (wtd_none rfl) rfl (Rd.x (x_sub' rfl rfl (i64w (by omega) (by omega)))) ?_
      refine sr_x rfl (wtd_none rfl) rfl (Rd.x (x_move rfl)) ?_
      have hq := tdiv_bd2 (a := a - 1) (n := b) (by omega) (by omega)
      refine sr_x rfl (wtd_none rfl) rfl (Rd.x (x_quo' rfl rfl (by omega) (i64w (by omega) (by omega)))) ?_
      refine sr_x rfl (wtd_none rfl) rfl (Rd.x (x_add' rfl rfl (i64w (by omega) (by omega)))) ?_
      refine sr_x rfl (wtd_none rfl) rfl (Rd.x (x_assign rfl)) ?_
      refine sr_nil ?_
      refine aw_keep (keep_cons (t := 4) rfl keep_nil) ?_
      refine aw_ret ?_
      show ∃ v H2, ResV _ _ _ _ _ _ v ∧ Sub H2 _ ∧ _
      exact ⟨_, H, resV rfl (.cons rfl .nil), (by repeat (first | exact Sub.refl _ | apply Sub.drop)), ⟨congrArg (Value.int .i64) (by unfold satCeil; first | rw [if_pos (by omega)] | rw [if_neg (by omega)]), rfl⟩⟩
set_option maxRecDepth 100000 in
set_option maxHeartbeats 400000 in
theorem rright54_s (r : Rule) (H : SHeap) : AC Try.prog W0 54 [r.v] H (fun v H' => v = .bool (decide (RRight r)) ∧ H' = H) := by
  refine ac_of Try.func54 rfl rfl rfl ?_
  refine aw_seq_region ?_
  refine sr_new rfl (wtd_none rfl) rfl (x_box rfl rfl) ?_
  intro r0_0 hr0_0 gr0_0
  refine sr_x rfl (wtd_none rfl) rfl (Rd.x (x_assign rfl)) ?_
  refine sr_nil ?_
  refine aw_keep (keep_cons (t := 1) rfl (keep_cons (t := 2) rfl keep_nil)) ?_
  refine aw_seq_region ?_
  refine sr_x rfl (wtd_none rfl) rfl (Rd.x (x_fieldAddr fd89_0 rfl)) ?_
  refine sr_x rfl (wtd_none rfl) rfl (Rd.x (x_load ag3 rfl (cells_ext (by repeat (first | exact List.mem_cons_self | apply List.mem_cons_of_mem | apply List.mem_append_right)) (by repeat (first | exact Ext.all _ | exact Ext.done | apply Ext.take | apply Ext.skip))))) ?_
  refine sr_cmp rfl (wtd_none rfl) rfl (Rd.x (x_ge rfl rfl)) (fun h1 => ?_) (fun h1 => ?_)
  · refine sr_x rfl (wtd_none rfl) rfl (Rd.x (x_move rfl)) ?_
    refine sr_x rfl (wtd_yes rfl rfl rfl) rfl (Rd.x (x_fieldAddr fd89_0 rfl)) ?_
    refine sr_x rfl (wtd_yes rfl rfl rfl) rfl (Rd.x (x_load ag3 rfl (cells_ext (by repeat (first | exact List.mem_cons_self | apply List.mem_cons_of_mem | apply List.mem_append_right)) (by repeat (first | exact Ext.all _ | exact Ext.done | apply Ext.take | apply Ext.skip))))) ?_
    refine sr_cmp rfl (wtd_yes rfl rfl rfl) rfl (Rd.x (x_le rfl rfl)) (fun h2 => ?_) (fun h2 => ?_)
    · refine sr_x rfl (wtd_none rfl) rfl (Rd.x (x_pick_t rfl rfl rfl)) ?_
      refine sr_x rfl (wtd_none rfl) rfl (Rd.x (x_move rfl)) ?_
      refine sr_x rfl (wtd_yes rfl rfl rfl) rfl (Rd.x (x_fieldAddr fd89_3 rfl)) ?_
      refine sr_x rfl (wtd_yes rfl rfl rfl) rfl (Rd.x (x_load ag2 rfl (cells_ext (by repeat (first | exact List.mem_cons_self | apply List.mem_cons_of_mem | apply List.mem_append_right)) (by repeat (first | exact Ext.all _ | exact Ext.done | apply Ext.take | apply Ext.skip))))) ?_
      refine sr_cmp rfl (wtd_yes rfl rfl rfl) rfl (Rd.x (x_ge rfl rfl)) (fun h3 => ?_) (fun h3 => ?_)
      · refine sr_x rfl (wtd_none rfl) rfl (Rd.x (x_pick_t rfl rfl rfl)) ?_
        refine sr_x rfl (wtd_none rfl) rfl (Rd.x (x_move rfl)) ?_
        refine sr_x rfl (wtd_yes rfl rfl rfl) rfl (Rd.x (x_fieldAddr fd89_3 rfl)) ?_
        refine sr_x rfl (wtd_yes rfl rfl rfl) rfl (Rd.x (x_load ag2 rfl (cells_ext (by repeat (first | exact List.mem_cons_self | apply List.mem_cons_of_mem | apply List.mem_append_right)) (by repeat (first | exact Ext.all _ | exact Ext.done | apply Ext.take | apply Ext.skip))))) ?_
        refine sr_cmp rfl (wtd_yes rfl rfl rfl) rfl (Rd.x (x_le rfl rfl)) (fun h4 => ?_) (fun h4 => ?_)
        · refine sr_x rfl (wtd_none rfl) rfl (Rd.x (x_pick_t rfl rfl rfl)) ?_
          refine sr_x rfl (wtd_none rfl) rfl (Rd.x (x_move rfl)) ?_
          refine sr_x rfl (wtd_yes rfl rfl rfl) rfl (Rd.x (x_fieldAddr fd89_4 rfl)) ?_
          refine sr_x rfl (wtd_yes rfl rfl rfl) rfl (Rd.x (x_load ag3 rfl (cells_ext (by repeat (first | exact List.mem_cons_self | apply List.mem_cons_of_mem | apply List.mem_append_right)) (by repeat (first | exact Ext.all _ | exact Ext.done | apply Ext.take | apply Ext.skip))))) ?_
          refine sr_cmp rfl (wtd_yes rfl rfl rfl) rfl (Rd.x (x_ge rfl rfl)) (fun h5 => ?_) (fun h5 => ?_)
          · refine sr_x rfl (wtd_none rfl) rfl (Rd.x (x_pick_t rfl rfl rfl)) ?_
            refine sr_x rfl (wtd_none rfl) rfl (Rd.x (x_move rfl)) ?_
            refine sr_x rfl (wtd_yes rfl rfl rfl) rfl (Rd.x (x_fieldAddr fd89_4 rfl)) ?_
            refine sr_x rfl (wtd_yes rfl rfl rfl) rfl (Rd.x (x_load ag3 rfl (cells_ext (by repeat (first | exact List.mem_cons_self | apply List.mem_cons_of_mem | apply List.mem_append_right)) (by repeat (first | exact Ext.all _ | exact Ext.done | apply Ext.take | apply Ext.skip))))) ?_
            refine sr_cmp rfl (wtd_yes rfl rfl rfl) rfl (Rd.x (x_le rfl rfl)) (fun h6 => ?_) (fun h6 => ?_)
            · refine sr_x rfl (wtd_none rfl) rfl (Rd.x (x_pick_t rfl rfl rfl)) ?_
              refine sr_x rfl (wtd_none rfl) rfl (Rd.x (x_assign rfl)) ?_
              refine sr_nil ?_
              refine aw_keep (keep_cons (t := 2) rfl keep_nil) ?_
              refine aw_ret ?_
              show ∃ v H2, ResV _ _ _ _ _ _ v ∧ Sub H2 _ ∧ _
              exact ⟨_, H, resV rfl (.cons rfl .nil), (by repeat (first | exact Sub.refl _ | apply Sub.drop)), ⟨congrArg Value.bool (by first | exact (decide_eq_true (by omega)).symm | exact (decide_eq_false (by omega)).symm), rfl⟩⟩
            · refine sr_x rfl (wtd_none rfl) rfl (Rd.x (x_pick_t rfl rfl rfl)) ?_
              refine sr_x rfl (wtd_none rfl) rfl (Rd.x (x_assign rfl)) ?_
              refine sr_nil ?_
              refine aw_keep (keep_cons (t := 2) rfl keep_nil) ?_
              refine aw_ret ?_
              show ∃ v H2, ResV _ _ _ _ _ _ v ∧ Sub H2 _ ∧ _
              exact ⟨_, H, resV rfl (.cons rfl .nil), (by repeat (first | exact Sub.refl _ | apply Sub.drop)), ⟨congrArg Value.bool (by first | exact (decide_eq_true (by omega)).symm | exact (decide_eq_false (by omega)).symm), rfl⟩⟩
          · refine sr_x rfl (wtd_none rfl) rfl (Rd.x (x_pick_t rfl rfl rfl)) ?_
            refine sr_x rfl (wtd_none rfl) rfl (Rd.x (x_move rfl)) ?_
            refine sr_skip rfl (wtd_no rfl rfl rfl rfl) rfl ?_
            refine sr_skip rfl (wtd_no rfl rfl rfl rfl) rfl ?_
            refine sr_skip rfl (wtd_no rfl rfl rfl rfl) rfl ?_
            refine sr_x rfl (wtd_none rfl) rfl (Rd.x (x_pick_f rfl rfl rfl)) ?_
            refine sr_x rfl (wtd_none rfl) rfl (Rd.x (x_assign rfl)) ?_
            refine sr_nil ?_
            refine aw_keep (keep_cons (t := 2) rfl keep_nil) ?_
            refine aw_ret ?_
            show ∃ v H2, ResV _ _ _ _ _ _ v ∧ Sub H2 _ ∧ _
            exact ⟨_, H, resV rfl (.cons rfl .nil), (by repeat (first | exact Sub.refl _ | apply Sub.drop)), ⟨congrArg Value.bool (by first | exact (decide_eq_true (by omega)).symm | exact (decide_eq_false (by omega)).symm), rfl⟩⟩
        · refine sr_x rfl (wtd_none rfl) rfl (Rd.x (x_pick_t rfl rfl rfl)) ?_
          refine sr_x rfl (wtd_none rfl) rfl (Rd.x (x_move rfl)) ?_
          refine sr_skip rfl (wtd_no rfl rfl rfl rfl) rfl ?_
          refine sr_skip rfl (wtd_no rfl rfl rfl rfl) rfl ?_
          refine sr_skip rfl (wtd_no rfl rfl rfl rfl) rfl ?_
          refine sr_x rfl (wtd_none rfl) rfl (Rd.x (x_pick_f rfl rfl rfl)) ?_
          refine sr_x rfl (wtd_none rfl) rfl (Rd.x (x_move rfl)) ?_
          refine sr_skip rfl (wtd_no rfl rfl rfl rfl) rfl ?_
          refine sr_skip rfl (wtd_no rfl rfl rfl rfl) rfl ?_
          refine sr_skip rfl (wtd_no rfl rfl rfl rfl) rfl ?_
          refine sr_x rfl (wtd_none rfl) rfl (Rd.x (x_pick_f rfl rfl rfl)) ?_
          refine sr_x rfl (wtd_none rfl) rfl (Rd.x (x_assign rfl)) ?_
          refine sr_nil ?_
          refine aw_keep (keep_cons (t := 2) rfl keep_nil) ?_
          refine aw_ret ?_
          show ∃ v H2, ResV _ _ _ _ _ _ v ∧ Sub H2 _ ∧ _
          exact ⟨_, H, resV rfl (.cons rfl .nil), (by repeat (first | exact Sub.refl _ | apply Sub.drop)), ⟨congrArg Value.bool (by first | exact (decide_eq_true (by omega)).symm | exact (decide_eq_false (by omega)).symm), rfl⟩⟩
      · refine sr_x rfl (wtd_none rfl) rfl (Rd.x (x_pick_t rfl rfl rfl)) ?_
        refine sr_x rfl (wtd_none rfl) rfl (Rd.x (x_move rfl)) ?_
        refine sr_skip rfl (wtd_no rfl rfl rfl rfl) rfl ?_
        refine sr_skip rfl (wtd_no rfl rfl rfl rfl) rfl ?_
        refine sr_skip rfl (wtd_no rfl rfl rfl rfl) rfl ?_
        refine sr_x rfl (wtd_none rfl) rfl (Rd.x (x_pick_f rfl rfl rfl)) ?_
        refine sr_x rfl (wtd_none rfl) rfl (Rd.x (x_move rfl)) ?_
        refine sr_skip rfl (wtd_no rfl rfl rfl rfl) rfl ?_
        refine sr_skip rfl (wtd_no rfl rfl rfl rfl) rfl ?_
        refine sr_skip rfl (wtd_no rfl rfl rfl rfl) rfl ?_
        refine sr_x rfl (wtd_none rfl) rfl (Rd.x (x_pick_f rfl rfl rfl)) ?_
        refine sr_x rfl (wtd_none rfl) rfl (Rd.x (x_move rfl)) ?_
        refine sr_skip rfl (wtd_no rfl rfl rfl rfl) rfl ?_
        refine sr_skip rfl (wtd_no rfl rfl rfl rfl) rfl ?_
        refine sr_skip rfl (wtd_no rfl rfl rfl rfl) rfl ?_
        refine sr_x rfl (wtd_none rfl) rfl (Rd.x (x_pick_f rfl rfl rfl)) ?_
        refine sr_x rfl (wtd_none rfl) rfl (Rd.x (x_assign rfl)) ?_
        refine sr_nil ?_
        refine aw_keep (keep_cons (t := 2) rfl keep_nil) ?_
        refine aw_ret ?_
        show ∃ v H2, ResV _ _ _ _ _ _ v ∧ Sub H2 _ ∧ _
        exact ⟨_, H, resV rfl (.cons rfl .nil), (by repeat (first | exact Sub.refl _ | apply Sub.drop)), ⟨congrArg Value.bool (by first | exact (decide_eq_true (by omega)).symm | exact (decide_eq_false (by omega)).symm), rfl⟩⟩
    · refine sr_x rfl (wtd_none rfl) rfl (Rd.x (x_pick_t rfl rfl rfl)) ?_
      refine sr_x rfl (wtd_none rfl) rfl (Rd.x (x_move rfl)) ?_
      refine sr_skip rfl (wtd_no rfl rfl rfl rfl) rfl ?_
      refine sr_skip rfl (wtd_no rfl rfl rfl rfl) rfl ?_
      refine sr_skip rfl (wtd_no rfl rfl rfl rfl) rfl ?_
      refine sr_x rfl (wtd_none rfl) rfl (Rd.x (x_pick_f rfl rfl rfl)) ?_
      refine sr_x rfl (wtd_none rfl) rfl (Rd.x (x_move rfl)) ?_
      refine sr_skip rfl (wtd_no rfl rfl rfl rfl) rfl ?_
      refine sr_skip rfl (wtd_no rfl rfl rfl rfl) rfl ?_
      refine sr_skip rfl (wtd_no rfl rfl rfl rfl) rfl ?_
      refine sr_x rfl (wtd_none rfl) rfl (Rd.x (x_pick_f rfl rfl rfl)) ?_
      refine sr_x rfl (wtd_none rfl) rfl (Rd.x (x_move rfl)) ?_
      refine sr_skip rfl (wtd_no rfl rfl rfl rfl) rfl ?_
      refine sr_skip rfl (wtd_no rfl rfl rfl rfl) rfl ?_
      refine sr_skip rfl (wtd_no rfl rfl rfl rfl) rfl ?_
      refine sr_x rfl (wtd_none rfl) rfl (Rd.x (x_pick_f rfl rfl rfl)) ?_
      refine sr_x rfl (wtd_none rfl) rfl (Rd.x (x_move rfl)) ?_
      refine sr_skip rfl (wtd_no rfl rfl rfl rfl) rfl ?_
      refine sr_skip rfl (wtd_no rfl rfl rfl rfl) rfl ?_
      refine sr_skip rfl (wtd_no rfl rfl rfl rfl) rfl ?_
      refine sr_x rfl (wtd_none rfl) rfl (Rd.x (x_pick_f rfl rfl rfl)) ?_
      refine sr_x rfl (wtd_none rfl) rfl (Rd.x (x_assign rfl)) ?_
      refine sr_nil ?_
      refine aw_keep (keep_cons (t := 2) rfl keep_nil) ?_
      refine aw_ret ?_
      show ∃ v H2, ResV _ _ _ _ _ _ v ∧ Sub H2 _ ∧ _
      exact ⟨_, H, resV rfl (.cons rfl .nil), (by repeat (first | exact Sub.refl _ | apply Sub.drop)), ⟨congrArg Value.bool (by first | exact (decide_eq_true (by omega)).symm | exact (decide_eq_false (by omega)).symm), rfl⟩⟩
  · refine sr_x rfl (wtd_none rfl) rfl (Rd.x (x_move rfl)) ?_
    refine sr_skip rfl (wtd_no rfl rfl rfl rfl) rfl ?_
    refine sr_skip rfl (wtd_no rfl rfl rfl rfl) rfl ?_
    refine sr_skip rfl (wtd_no rfl rfl rfl rfl) rfl ?_
    refine sr_x rfl (wtd_none rfl) rfl (Rd.x (x_pick_f rfl rfl rfl)) ?_
    refine sr_x rfl (wtd_none rfl) rfl (Rd.x (x_move rfl)) ?_
    refine sr_skip rfl (wtd_no rfl rfl rfl rfl) rfl ?_
    refine sr_skip rfl (wtd_no rfl rfl rfl rfl) rfl ?_
    refine sr_skip rfl (wtd_no rfl rfl rfl rfl) rfl ?_
    refine sr_x rfl (wtd_none rfl) rfl (Rd.x (x_pick_f rfl rfl rfl)) ?_
    refine sr_x rfl (wtd_none rfl) rfl (Rd.x (x_move rfl)) ?_
    refine sr_skip rfl (wtd_no rfl rfl rfl rfl) rfl ?_
    refine sr_skip rfl (wtd_no rfl rfl rfl rfl) rfl ?_
    refine sr_skip rfl (wtd_no rfl rfl rfl rfl) rfl ?_
    refine sr_x rfl (wtd_none rfl) rfl (Rd.x (x_pick_f rfl rfl rfl)) ?_
    refine sr_x rfl (wtd_none rfl) rfl (Rd.x (x_move rfl)) ?_
    refine sr_skip rfl (wtd_no rfl rfl rfl rfl) rfl ?_
    refine sr_skip rfl (wtd_no rfl rfl rfl rfl) rfl ?_
    refine sr_skip rfl (wtd_no rfl rfl rfl rfl) rfl ?_
    refine sr_x rfl (wtd_none rfl) rfl (Rd.x (x_pick_f rfl rfl rfl)) ?_
    refine sr_x rfl (wtd_none rfl) rfl (Rd.x (x_move rfl)) ?_
    refine sr_skip rfl (wtd_no rfl rfl rfl rfl) rfl ?_
    refine sr_skip rfl (wtd_no rfl rfl rfl rfl) rfl ?_
    refine sr_skip rfl (wtd_no rfl rfl rfl rfl) rfl ?_
    refine sr_x rfl (wtd_none rfl) rfl (Rd.x (x_pick_f rfl rfl rfl)) ?_
    refine sr_x rfl (wtd_none rfl) rfl (Rd.x (x_assign rfl)) ?_
    refine sr_nil ?_
    refine aw_keep (keep_cons (t := 2) rfl keep_nil) ?_
    refine aw_ret ?_
    show ∃ v H2, ResV _ _ _ _ _ _ v ∧ Sub H2 _ ∧ _
    exact ⟨_, H, resV rfl (.cons rfl .nil), (by repeat (first | exact Sub.refl _ | apply Sub.drop)), ⟨congrArg Value.bool (by first | exact (decide_eq_true (by omega)).symm | exact (decide_eq_false (by omega)).symm), rfl⟩⟩
set_option maxRecDepth 100000 in
set_option maxHeartbeats 400000 in
theorem rright55_s (r : Rule) (H : SHeap) : AC Try.prog W0 55 [r.v] H (fun v H' => v = .bool (decide (RRight r)) ∧ H' = H) := by
  refine ac_of Try.func55 rfl rfl rfl ?_
  refine aw_seq_region ?_
  refine sr_new rfl (wtd_none rfl) rfl (x_box rfl rfl) ?_
  intro r0_0 hr0_0 gr0_0
  refine sr_x rfl (wtd_none rfl) rfl (Rd.x (x_assign rfl)) ?_
  refine sr_nil ?_
  refine aw_keep (keep_cons (t := 1) rfl (keep_cons (t := 2) rfl keep_nil)) ?_
  refine aw_seq_region ?_
  refine sr_x rfl (wtd_none rfl) rfl (Rd.x (x_fieldAddr fd89_0 rfl)) ?_
  refine sr_x rfl (wtd_none rfl) rfl (Rd.x (x_load ag3 rfl (cells_ext (by repeat (first | exact List.mem_cons_self | apply List.mem_cons_of_mem | apply List.mem_append_right)) (by repeat (first | exact Ext.all _ | exact Ext.done | apply Ext.take | apply Ext.skip))))) ?_
  refine sr_cmp rfl (wtd_none rfl) rfl (Rd.x (x_ge rfl rfl)) (fun h1 => ?_) (fun h1 => ?_)
  · refine sr_x rfl (wtd_none rfl) rfl (Rd.x (x_move rfl)) ?_
    refine sr_x rfl (wtd_yes rfl rfl rfl) rfl (Rd.x (x_fieldAddr fd89_0 rfl)) ?_
    refine sr_x rfl (wtd_yes rfl rfl rfl) rfl (Rd.x (x_load ag3 rfl (cells_ext (by repeat (first | exact List.mem_cons_self | apply List.mem_cons_of_mem | apply List.mem_append_right)) (by repeat (first | exact Ext.all _ | exact Ext.done | apply Ext.take | apply Ext.skip))))) ?_
    refine sr_cmp rfl (wtd_yes rfl rfl rfl) rfl (Rd.x (x_le rfl rfl)) (fun h2 => ?_) (fun h2 => ?_)
    · refine sr_x rfl (wtd_none rfl) rfl (Rd.x (x_pick_t rfl rfl rfl)) ?_
      refine sr_x rfl (wtd_none rfl) rfl (Rd.x (x_move rfl)) ?_
      refine sr_x rfl (wtd_yes rfl rfl rfl) rfl (Rd.x (x_fieldAddr fd89_3 rfl)) ?_
      refine sr_x rfl (wtd_yes rfl rfl rfl) rfl (Rd.x (x_load ag2 rfl (cells_ext (by repeat (first | exact List.mem_cons_self | apply List.mem_cons_of_mem | apply List.mem_append_right)) (by repeat (first | exact Ext.all _ | exact Ext.done | apply Ext.take | apply Ext.skip))))) ?_
      refine sr_cmp rfl (wtd_yes rfl rfl rfl) rfl (Rd.x (x_ge rfl rfl)) (fun h3 => ?_) (fun h3 => ?_)
      · refine sr_x rfl (wtd_none rfl) rfl (Rd.x (x_pick_t rfl rfl rfl)) ?_
        refine sr_x rfl (wtd_none rfl) rfl (Rd.x (x_move rfl)) ?_
        refine sr_x rfl (wtd_yes rfl rfl rfl) rfl (Rd.x (x_fieldAddr fd89_3 rfl)) ?_
        refine sr_x rfl (wtd_yes rfl rfl rfl) rfl (Rd.x (x_load ag2 rfl (cells_ext (by repeat (first | exact List.mem_cons_self | apply List.mem_cons_of_mem | apply List.mem_append_right)) (by repeat (first | exact Ext.all _ | exact Ext.done | apply Ext.take | apply Ext.skip))))) ?_
        refine sr_cmp rfl (wtd_yes rfl rfl rfl) rfl (Rd.x (x_le rfl rfl)) (fun h4 => ?_) (fun h4 => ?_)
        · refine sr_x rfl (wtd_none rfl) rfl (Rd.x (x_pick_t rfl rfl rfl)) ?_
          refine sr_x rfl (wtd_none rfl) rfl (Rd.x (x_move rfl)) ?_
          refine sr_x rfl (wtd_yes rfl rfl rfl) rfl (Rd.x (x_fieldAddr fd89_4 rfl)) ?_
          refine sr_x rfl (wtd_yes rfl rfl rfl) rfl (Rd.x (x_load ag3 rfl (cells_ext (by repeat (first | exact List.mem_cons_self | apply List.mem_cons_of_mem | apply List.mem_append_right)) (by repeat (first | exact Ext.all _ | exact Ext.done | apply Ext.take | apply Ext.skip))))) ?_
          refine sr_cmp rfl (wtd_yes rfl rfl rfl) rfl (Rd.x (x_ge rfl rfl)) (fun h5 => ?_) (fun h5 => ?_)
          · refine sr_x rfl (wtd_none rfl) rfl (Rd.x (x_pick_t rfl rfl rfl)) ?_
            refine sr_x rfl (wtd_none rfl) rfl (Rd.x (x_move rfl)) ?_
            refine sr_x rfl (wtd_yes rfl rfl rfl) rfl (Rd.x (x_fieldAddr fd89_4 rfl)) ?_
            refine sr_x rfl (wtd_yes rfl rfl rfl) rfl (Rd.x (x_load ag3 rfl (cells_ext (by repeat (first | exact List.mem_cons_self | apply List.mem_cons_of_mem | apply List.mem_append_right)) (by repeat (first | exact Ext.all _ | exact Ext.done | apply Ext.take | apply Ext.skip))))) ?_
            refine sr_cmp rfl (wtd_yes rfl rfl rfl) rfl (Rd.x (x_le rfl rfl)) (fun h6 => ?_) (fun h6 => ?_)
            · refine sr_x rfl (wtd_none rfl) rfl (Rd.x (x_pick_t rfl rfl rfl)) ?_
              refine sr_x rfl (wtd_none rfl) rfl (Rd.x (x_assign rfl)) ?_
              refine sr_nil ?_
              refine aw_keep (keep_cons (t := 2) rfl keep_nil) ?_
              refine aw_ret ?_
              show ∃ v H2, ResV _ _ _ _ _ _ v ∧ Sub H2 _ ∧ _
              exact ⟨_, H, resV rfl (.cons rfl .nil), (by repeat (first | exact Sub.refl _ | apply Sub.drop)), ⟨congrArg Value.bool (by first | exact (decide_eq_true (by omega)).symm | exact (decide_eq_false (by omega)).symm), rfl⟩⟩
            · refine sr_x rfl (wtd_none rfl) rfl (Rd.x (x_pick_t rfl rfl rfl)) ?_
              refine sr_x rfl (wtd_none rfl) rfl (Rd.x (x_assign rfl)) ?_
              refine sr_nil ?_
              refine aw_keep (keep_cons (t := 2) rfl keep_nil) ?_
              refine aw_ret ?_
              show ∃ v H2, ResV _ _ _ _ _ _ v ∧ Sub H2 _ ∧ _
              exact ⟨_, H, resV rfl (.cons rfl .nil), (by repeat (first | exact Sub.refl _ | apply Sub.drop)), ⟨congrArg Value.bool (by first | exact (decide_eq_true (by omega)).symm | exact (decide_eq_false (by omega)).symm), rfl⟩⟩
          · refine sr_x rfl (wtd_none rfl) rfl (Rd.x (x_pick_t rfl rfl rfl)) ?_
            refine sr_x rfl (wtd_none rfl) rfl (Rd.x (x_move rfl)) ?_
            refine sr_skip rfl (wtd_no rfl rfl rfl rfl) rfl ?_
            refine sr_skip rfl (wtd_no rfl rfl rfl rfl) rfl ?_
            refine sr_skip rfl (wtd_no rfl rfl rfl rfl) rfl ?_
            refine sr_x rfl (wtd_none rfl) rfl (Rd.x (x_pick_f rfl rfl rfl)) ?_
            refine sr_x rfl (wtd_none rfl) rfl (Rd.x (x_assign rfl)) ?_
            refine sr_nil ?_
            refine aw_keep (keep_cons (t := 2) rfl keep_nil) ?_
            refine aw_ret ?_
            show ∃ v H2, ResV _ _ _ _ _ _ v ∧ Sub H2 _ ∧ _
            exact ⟨_, H, resV rfl (.cons rfl .nil), (by repeat (first | exact Sub.refl _ | apply Sub.drop)), ⟨congrArg Value.bool (by first | exact (decide_eq_true (by omega)).symm | exact (decide_eq_false (by omega)).symm), rfl⟩⟩
        · refine sr_x rfl (wtd_none rfl) rfl (Rd.x (x_pick_t rfl rfl rfl)) ?_
          refine sr_x rfl (wtd_none rfl) rfl (Rd.x (x_move rfl)) ?_
          refine sr_skip rfl (wtd_no rfl rfl rfl rfl) rfl ?_
          refine sr_skip rfl (wtd_no rfl rfl rfl rfl) rfl ?_
          refine sr_skip rfl (wtd_no rfl rfl rfl rfl) rfl ?_
          refine sr_x rfl (wtd_none rfl) rfl (Rd.x (x_pick_f rfl rfl rfl)) ?_
          refine sr_x rfl (wtd_none rfl) rfl (Rd.x (x_move rfl)) ?_
          refine sr_skip rfl (wtd_no rfl rfl rfl rfl) rfl ?_
          refine sr_skip rfl (wtd_no rfl rfl rfl rfl) rfl ?_
          refine sr_skip rfl (wtd_no rfl rfl rfl rfl) rfl ?_
          refine sr_x rfl (wtd_none rfl) rfl (Rd.x (x_pick_f rfl rfl rfl)) ?_
          refine sr_x rfl (wtd_none rfl) rfl (Rd.x (x_assign rfl)) ?_
          refine sr_nil ?_
          refine aw_keep (keep_cons (t := 2) rfl keep_nil) ?_
          refine aw_ret ?_
          show ∃ v H2, ResV _ _ _ _ _ _ v ∧ Sub H2 _ ∧ _
          exact ⟨_, H, resV rfl (.cons rfl .nil), (by repeat (first | exact Sub.refl _ | apply Sub.drop)), ⟨congrArg Value.bool (by first | exact (decide_eq_true (by omega)).symm | exact (decide_eq_false (by omega)).symm), rfl⟩⟩
      · refine sr_x rfl (wtd_none rfl) rfl (Rd.x (x_pick_t rfl rfl rfl)) ?_
        refine sr_x rfl (wtd_none rfl) rfl (Rd.x (x_move rfl)) ?_
        refine sr_skip rfl (wtd_no rfl rfl rfl rfl) rfl ?_
        refine sr_skip rfl (wtd_no rfl rfl rfl rfl) rfl ?_
        refine sr_skip rfl (wtd_no rfl rfl rfl rfl) rfl ?_
        refine sr_x rfl (wtd_none rfl) rfl (Rd.x (x_pick_f rfl rfl rfl)) ?_
        refine sr_x rfl (wtd_none rfl) rfl (Rd.x (x_move rfl)) ?_
        refine sr_skip rfl (wtd_no rfl rfl rfl rfl) rfl ?_
        refine sr_skip rfl (wtd_no rfl rfl rfl rfl) rfl ?_
        refine sr_skip rfl (wtd_no rfl rfl rfl rfl) rfl ?_
        refine sr_x rfl (wtd_none rfl) rfl (Rd.x (x_pick_f rfl rfl rfl)) ?_
        refine sr_x rfl (wtd_none rfl) rfl (Rd.x (x_move rfl)) ?_
        refine sr_skip rfl (wtd_no rfl rfl rfl rfl) rfl ?_
        refine sr_skip rfl (wtd_no rfl rfl rfl rfl) rfl ?_
        refine sr_skip rfl (wtd_no rfl rfl rfl rfl) rfl ?_
        refine sr_x rfl (wtd_none rfl) rfl (Rd.x (x_pick_f rfl rfl rfl)) ?_
        refine sr_x rfl (wtd_none rfl) rfl (Rd.x (x_assign rfl)) ?_
        refine sr_nil ?_
        refine aw_keep (keep_cons (t := 2) rfl keep_nil) ?_
        refine aw_ret ?_
        show ∃ v H2, ResV _ _ _ _ _ _ v ∧ Sub H2 _ ∧ _
        exact ⟨_, H, resV rfl (.cons rfl .nil), (by repeat (first | exact Sub.refl _ | apply Sub.drop)), ⟨congrArg Value.bool (by first | exact (decide_eq_true (by omega)).symm | exact (decide_eq_false (by omega)).symm), rfl⟩⟩
    · refine sr_x rfl (wtd_none rfl) rfl (Rd.x (x_pick_t rfl rfl rfl)) ?_
      refine sr_x rfl (wtd_none rfl) rfl (Rd.x (x_move rfl)) ?_
      refine sr_skip rfl (wtd_no rfl rfl rfl rfl) rfl ?_
      refine sr_skip rfl (wtd_no rfl rfl rfl rfl) rfl ?_
      refine sr_skip rfl (wtd_no rfl rfl rfl rfl) rfl ?_
      refine sr_x rfl (wtd_none rfl) rfl (Rd.x (x_pick_f rfl rfl rfl)) ?_
      refine sr_x rfl (wtd_none rfl) rfl (Rd.x (x_move rfl)) ?_
      refine sr_skip rfl (wtd_no rfl rfl rfl rfl) rfl ?_
      refine sr_skip rfl (wtd_no rfl rfl rfl rfl) rfl ?_
      refine sr_skip rfl (wtd_no rfl rfl rfl rfl) rfl ?_
      refine sr_x rfl (wtd_none rfl) rfl (Rd.x (x_pick_f rfl rfl rfl)) ?_
      refine sr_x rfl (wtd_none rfl) rfl (Rd.x (x_move rfl)) ?_
      refine sr_skip rfl (wtd_no rfl rfl rfl rfl) rfl ?_
      refine sr_skip rfl (wtd_no rfl rfl rfl rfl) rfl ?_
      refine sr_skip rfl (wtd_no rfl rfl rfl rfl) rfl ?_
      refine sr_x rfl (wtd_none rfl) rfl (Rd.x (x_pick_f rfl rfl rfl)) ?_
      refine sr_x rfl (wtd_none rfl) rfl (Rd.x (x_move rfl)) ?_
      refine sr_skip rfl (wtd_no rfl rfl rfl rfl) rfl ?_
      refine sr_skip rfl (wtd_no rfl rfl rfl rfl) rfl ?_
      refine sr_skip rfl (wtd_no rfl rfl rfl rfl) rfl ?_
      refine sr_x rfl (wtd_none rfl) rfl (Rd.x (x_pick_f rfl rfl rfl)) ?_
      refine sr_x rfl (wtd_none rfl) rfl (Rd.x (x_assign rfl)) ?_
      refine sr_nil ?_
      refine aw_keep (keep_cons (t := 2) rfl keep_nil) ?_
      refine aw_ret ?_
      show ∃ v H2, ResV _ _ _ _ _ _ v ∧ Sub H2 _ ∧ _
      exact ⟨_, H, resV rfl (.cons rfl .nil), (by repeat (first | exact Sub.refl _ | apply Sub.drop)), ⟨congrArg Value.bool (by first | exact (decide_eq_true (by omega)).symm | exact (decide_eq_false (by omega)).symm), rfl⟩⟩
  · refine sr_x rfl (wtd_none rfl) rfl (Rd.x (x_move rfl)) ?_
    refine sr_skip rfl (wtd_no rfl rfl rfl rfl) rfl ?_
    refine sr_skip rfl (wtd_no rfl rfl rfl rfl) rfl ?_
    refine sr_skip rfl (wtd_no rfl rfl rfl rfl) rfl ?_
    refine sr_x rfl (wtd_none rfl) rfl (Rd.x (x_pick_f rfl rfl rfl)) ?_
    refine sr_x rfl (wtd_none rfl) rfl (Rd.x (x_move rfl)) ?_
    refine sr_skip rfl (wtd_no rfl rfl rfl rfl) rfl ?_
    refine sr_skip rfl (wtd_no rfl rfl rfl rfl) rfl ?_
    refine sr_skip rfl (wtd_no rfl rfl rfl rfl) rfl ?_
    refine sr_x rfl (wtd_none rfl) rfl (Rd.x (x_pick_f rfl rfl rfl)) ?_
    refine sr_x rfl (wtd_none rfl) rfl (Rd.x (x_move rfl)) ?_
    refine sr_skip rfl (wtd_no rfl rfl rfl rfl) rfl ?_
    refine sr_skip rfl (wtd_no rfl rfl rfl rfl) rfl ?_
    refine sr_skip rfl (wtd_no rfl rfl rfl rfl) rfl ?_
    refine sr_x rfl (wtd_none rfl) rfl (Rd.x (x_pick_f rfl rfl rfl)) ?_
    refine sr_x rfl (wtd_none rfl) rfl (Rd.x (x_move rfl)) ?_
    refine sr_skip rfl (wtd_no rfl rfl rfl rfl) rfl ?_
    refine sr_skip rfl (wtd_no rfl rfl rfl rfl) rfl ?_
    refine sr_skip rfl (wtd_no rfl rfl rfl rfl) rfl ?_
    refine sr_x rfl (wtd_none rfl) rfl (Rd.x (x_pick_f rfl rfl rfl)) ?_
    refine sr_x rfl (wtd_none rfl) rfl (Rd.x (x_move rfl)) ?_
    refine sr_skip rfl (wtd_no rfl rfl rfl rfl) rfl ?_
    refine sr_skip rfl (wtd_no rfl rfl rfl rfl) rfl ?_
    refine sr_skip rfl (wtd_no rfl rfl rfl rfl) rfl ?_
    refine sr_x rfl (wtd_none rfl) rfl (Rd.x (x_pick_f rfl rfl rfl)) ?_
    refine sr_x rfl (wtd_none rfl) rfl (Rd.x (x_assign rfl)) ?_
    refine sr_nil ?_
    refine aw_keep (keep_cons (t := 2) rfl keep_nil) ?_
    refine aw_ret ?_
    show ∃ v H2, ResV _ _ _ _ _ _ v ∧ Sub H2 _ ∧ _
    exact ⟨_, H, resV rfl (.cons rfl .nil), (by repeat (first | exact Sub.refl _ | apply Sub.drop)), ⟨congrArg Value.bool (by first | exact (decide_eq_true (by omega)).symm | exact (decide_eq_false (by omega)).symm), rfl⟩⟩
set_option maxRecDepth 100000 in
set_option maxHeartbeats 400000 in
theorem wait63_s (r : Rule) (tries : Int) (H : SHeap) : AC Try.prog W0 63 [r.v, .int .i64 tries] H (fun v H' => v = .int .i64 (waitL r tries) ∧ H' = H) := by
  refine ac_of Try.func63 rfl rfl rfl ?_
  refine aw_seq_region ?_
  refine sr_new rfl (wtd_none rfl) rfl (x_box rfl rfl) ?_
  intro r0_0 hr0_0 gr0_0
  refine sr_x rfl (wtd_none rfl) rfl (Rd.x (x_assign rfl)) ?_
  refine sr_nil ?_
  refine aw_keep (keep_cons (t := 1) rfl (keep_cons (t := 2) rfl (keep_cons (t := 4) rfl keep_nil))) ?_
  refine aw_seq_region ?_
  refine sr_x rfl (wtd_none rfl) rfl (Rd.x (x_fieldAddr fd89_3 rfl)) ?_
  refine sr_x rfl (wtd_none rfl) rfl (Rd.x (x_load ag2 rfl (cells_ext (by repeat (first | exact List.mem_cons_self | apply List.mem_cons_of_mem | apply List.mem_append_right)) (by repeat (first | exact Ext.all _ | exact Ext.done | apply Ext.take | apply Ext.skip))))) ?_
  refine sr_x rfl (wtd_none rfl) rfl (Rd.x (x_assign rfl)) ?_
  refine sr_nil ?_
  refine aw_keep (keep_cons (t := 1) rfl (keep_cons (t := 4) rfl (keep_cons (t := 5) rfl keep_nil))) ?_
  refine aw_seq ?_
  refine aw_seq_region ?_
  refine sr_x rfl (wtd_none rfl) rfl (Rd.x (x_move rfl)) ?_
  refine sr_x rfl (wtd_none rfl) rfl (Rd.x (x_max rfl rfl)) ?_
  refine sr_x rfl (wtd_none rfl) rfl (Rd.x (x_min rfl rfl)) ?_
  refine sr_x rfl (wtd_none rfl) rfl (Rd.x (x_move rfl)) ?_
  refine sr_nil ?_
  refine aw_keep (keep_cons (t := 4) rfl (keep_cons (t := 5) rfl (keep_cons (t := 10) rfl (keep_cons (t := 11) rfl keep_nil)))) ?_
  refine aw_block ?_
  refine aw_loop (ι := Nat) (fun k => (k : Int) ≤ min (max tries 0) 64) (fun k => [(5, .int .i64 (dblN r.wait k)), (10, .int .i64 (min (max tries 0) 64)), (11, .int .i64 k)]) (fun _ => H) (fun k => (min (max tries 0) 64 - k).toNat) 0 (by omega) (by repeat (first | exact keep_nil | refine keep_cons rfl ?_)) (by repeat (first | exact Sub.refl _ | apply Sub.drop)) ?_
  intro k hk
  refine aw_seq_region ?_
  refine sr_cmp rfl (wtd_none rfl) rfl (Rd.x (x_lt rfl rfl)) (fun h1 => ?_) (fun h1 => ?_)
  · refine sr_nil ?_
    refine aw_keep (keep_cons (t := 5) rfl (keep_cons (t := 10) rfl (keep_cons (t := 11) rfl (keep_cons (t := 12) rfl keep_nil)))) ?_
    refine aw_seq ?_
    refine aw_true rfl ?_
    refine aw_skip ?_
    show AW _ _ _ _ _ _ _
    refine aw_seq ?_
    refine aw_block ?_
    refine aw_region ?_
    refine sr_x rfl (wtd_none rfl) rfl (Rd.x (x_move rfl)) ?_
    refine sr_x rfl (wtd_none rfl) rfl (Rd.x (x_move rfl)) ?_
    refine sr_new rfl (wtd_none rfl) rfl (x_buildSlice Try.underlying178 sz2 zr2 rfl rfl rfl rfl (by repeat (first | exact Parts.nil | (apply Parts.cons; rfl))) (by repeat (first | exact Fill.done | (apply Fill.part; rfl; rfl; rfl; focus (repeat (first | exact Spl.done | exact Spl.all rfl | apply Spl.put | apply Spl.skip)))))) ?_
    intro r4_2 hr4_2 gr4_2
    refine sr_d rfl (wtd_none rfl) rfl (opS_call rfl rfl rfl rfl cl59 (satAdd_s _ 2 [_, _] _ rfl (by omega) (cells_ext (by repeat (first | exact List.mem_cons_self | apply List.mem_cons_of_mem | apply List.mem_append_right)) (by repeat (first | exact Ext.all _ | exact Ext.done | apply Ext.take | apply Ext.skip))))) ?_
    rintro _ _ ⟨rfl, rfl⟩
    refine sr_x rfl (wtd_none rfl) rfl (Rd.x (x_assign rfl)) ?_
    refine sr_nil ?_
    show AW _ _ _ _ _ _ _
    refine aw_region ?_
    refine sr_x rfl (wtd_none rfl) rfl (Rd.x (x_add' rfl rfl (i64w (by omega) (by omega)))) ?_
    refine sr_x rfl (wtd_none rfl) rfl (Rd.x (x_move rfl)) ?_
    refine sr_nil ?_
    show ∃ s', _ ∧ _ ∧ _ ∧ _
    exact ⟨k + 1, by omega, by omega, (by repeat (first | exact keep_nil | refine keep_cons rfl ?_)), (by repeat (first | exact Sub.refl _ | apply Sub.drop))⟩
  · refine sr_nil ?_
    refine aw_keep (keep_cons (t := 5) rfl (keep_cons (t := 10) rfl (keep_cons (t := 11) rfl (keep_cons (t := 12) rfl keep_nil)))) ?_
    refine aw_seq ?_
    refine aw_false rfl ?_
    refine aw_exit ?_
    show AW _ _ _ _ _ _ _
    refine aw_seq_region ?_
    refine sr_x rfl (wtd_none rfl) rfl (Rd.x (x_move rfl)) ?_
    refine sr_x rfl (wtd_none rfl) rfl (Rd.x (x_assign rfl)) ?_
    refine sr_nil ?_
    refine aw_keep (keep_cons (t := 4) rfl keep_nil) ?_
    refine aw_ret ?_
    show ∃ v H2, ResV _ _ _ _ _ _ v ∧ Sub H2 _ ∧ _
    exact ⟨_, H, resV rfl (.cons rfl .nil), (by repeat (first | exact Sub.refl _ | apply Sub.drop)), ⟨congrArg (Value.int .i64) (waitL_at (by omega)), rfl⟩⟩
set_option maxRecDepth 100000 in
set_option maxHeartbeats 400000 in
theorem wait60_s (r : Rule) (tries : Int) (H : SHeap) : AC Try.prog W0 60 [r.v, .int .i64 tries] H (fun v H' => v = .int .i64 (waitL r tries) ∧ H' = H) := by
  refine ac_of Try.func60 rfl rfl rfl ?_
  refine aw_seq_region ?_
  refine sr_new rfl (wtd_none rfl) rfl (x_box rfl rfl) ?_
  intro r0_0 hr0_0 gr0_0
  refine sr_x rfl (wtd_none rfl) rfl (Rd.x (x_assign rfl)) ?_
  refine sr_nil ?_
  refine aw_keep (keep_cons (t := 1) rfl (keep_cons (t := 2) rfl (keep_cons (t := 4) rfl keep_nil))) ?_
  refine aw_seq_region ?_
  refine sr_x rfl (wtd_none rfl) rfl (Rd.x (x_fieldAddr fd89_3 rfl)) ?_
  refine sr_x rfl (wtd_none rfl) rfl (Rd.x (x_load ag2 rfl (cells_ext (by repeat (first | exact List.mem_cons_self | apply List.mem_cons_of_mem | apply List.mem_append_right)) (by repeat (first | exact Ext.all _ | exact Ext.done | apply Ext.take | apply Ext.skip))))) ?_
  refine sr_x rfl (wtd_none rfl) rfl (Rd.x (x_assign rfl)) ?_
  refine sr_nil ?_
  refine aw_keep (keep_cons (t := 1) rfl (keep_cons (t := 4) rfl (keep_cons (t := 5) rfl keep_nil))) ?_
  refine aw_seq ?_
  refine aw_seq_region ?_
  refine sr_x rfl (wtd_none rfl) rfl (Rd.x (x_assign rfl)) ?_
  refine sr_nil ?_
  refine aw_keep (keep_cons (t := 1) rfl (keep_cons (t := 4) rfl (keep_cons (t := 5) rfl (keep_cons (t := 6) rfl keep_nil)))) ?_
  refine aw_block ?_
  refine aw_loop (ι := Nat) (fun k => (k : Int) ≤ min (max tries 0) 64) (fun k => [(1, .int .i64 tries), (5, .int .i64 (dblN r.wait k)), (6, .int .i64 k)]) (fun _ => H) (fun k => (min (max tries 0) 64 - k).toNat) 0 (by omega) (by repeat (first | exact keep_nil | refine keep_cons rfl ?_)) (by repeat (first | exact Sub.refl _ | apply Sub.drop)) ?_
  intro k hk
  refine aw_seq ?_
  refine aw_seq_region ?_
  refine sr_x rfl (wtd_none rfl) rfl (Rd.x (x_move rfl)) ?_
  refine sr_x rfl (wtd_none rfl) rfl (Rd.x (x_move rfl)) ?_
  refine sr_cmp rfl (wtd_none rfl) rfl (Rd.x (x_lt rfl rfl)) (fun h1 => ?_) (fun h1 => ?_)
  · refine sr_x rfl (wtd_none rfl) rfl (Rd.x (x_move rfl)) ?_
    refine sr_x rfl (wtd_yes rfl rfl rfl) rfl (Rd.x (x_move rfl)) ?_
    refine sr_cmp rfl (wtd_yes rfl rfl rfl) rfl (Rd.x (x_lt rfl rfl)) (fun h2 => ?_) (fun h2 => ?_)
    · refine sr_x rfl (wtd_none rfl) rfl (Rd.x (x_pick_t rfl rfl rfl)) ?_
      refine sr_nil ?_
      refine aw_keep (keep_cons (t := 1) rfl (keep_cons (t := 5) rfl (keep_cons (t := 6) rfl (keep_cons (t := 9) rfl (keep_cons (t := 10) rfl (keep_cons (t := 11) rfl (keep_cons (t := 12) rfl (keep_cons (t := 13) rfl (keep_cons (t := 14) rfl (keep_cons (t := 15) rfl keep_nil)))))))))) ?_
      refine aw_true rfl ?_
      refine aw_skip ?_
      show AW _ _ _ _ _ _ _
      refine aw_seq ?_
      refine aw_block ?_
      refine aw_region ?_
      refine sr_x rfl (wtd_none rfl) rfl (Rd.x (x_move rfl)) ?_
      refine sr_x rfl (wtd_none rfl) rfl (Rd.x (x_move rfl)) ?_
      refine sr_new rfl (wtd_none rfl) rfl (x_buildSlice Try.underlying178 sz2 zr2 rfl rfl rfl rfl (by repeat (first | exact Parts.nil | (apply Parts.cons; rfl))) (by repeat (first | exact Fill.done | (apply Fill.part; rfl; rfl; rfl; focus (repeat (first | exact Spl.done | exact Spl.all rfl | apply Spl.put | apply Spl.skip)))))) ?_
      intro r5_2 hr5_2 gr5_2
      refine sr_d rfl (wtd_none rfl) rfl (opS_call rfl rfl rfl rfl cl59 (satAdd_s _ 2 [_, _] _ rfl (by omega) (cells_ext (by repeat (first | exact List.mem_cons_self | apply List.mem_cons_of_mem | apply List.mem_append_right)) (by repeat (first | exact Ext.all _ | exact Ext.done | apply Ext.take | apply Ext.skip))))) ?_
      rintro _ _ ⟨rfl, rfl⟩
      refine sr_x rfl (wtd_none rfl) rfl (Rd.x (x_assign rfl)) ?_
      refine sr_nil ?_
      show AW _ _ _ _ _ _ _
      refine aw_region ?_
      refine sr_x rfl (wtd_none rfl) rfl (Rd.x (x_move rfl)) ?_
      refine sr_x rfl (wtd_none rfl) rfl (Rd.x (x_add' rfl rfl (i64w (by omega) (by omega)))) ?_
      refine sr_x rfl (wtd_none rfl) rfl (Rd.x (x_assign rfl)) ?_
      refine sr_nil ?_
      show ∃ s', _ ∧ _ ∧ _ ∧ _
      exact ⟨k + 1, by omega, by omega, (by repeat (first | exact keep_nil | refine keep_cons rfl ?_)), (by repeat (first | exact Sub.refl _ | apply Sub.drop))⟩
    · refine sr_x rfl (wtd_none rfl) rfl (Rd.x (x_pick_t rfl rfl rfl)) ?_
      refine sr_nil ?_
      refine aw_keep (keep_cons (t := 1) rfl (keep_cons (t := 5) rfl (keep_cons (t := 6) rfl (keep_cons (t := 9) rfl (keep_cons (t := 10) rfl (keep_cons (t := 11) rfl (keep_cons (t := 12) rfl (keep_cons (t := 13) rfl (keep_cons (t := 14) rfl (keep_cons (t := 15) rfl keep_nil)))))))))) ?_
      refine aw_false rfl ?_
      refine aw_exit ?_
      show AW _ _ _ _ _ _ _
      refine aw_seq_region ?_
      refine sr_x rfl (wtd_none rfl) rfl (Rd.x (x_move rfl)) ?_
      refine sr_x rfl (wtd_none rfl) rfl (Rd.x (x_assign rfl)) ?_
      refine sr_nil ?_
      refine aw_keep (keep_cons (t := 4) rfl keep_nil) ?_
      refine aw_ret ?_
      show ∃ v H2, ResV _ _ _ _ _ _ v ∧ Sub H2 _ ∧ _
      exact ⟨_, H, resV rfl (.cons rfl .nil), (by repeat (first | exact Sub.refl _ | apply Sub.drop)), ⟨congrArg (Value.int .i64) (waitL_at (by omega)), rfl⟩⟩
  · refine sr_x rfl (wtd_none rfl) rfl (Rd.x (x_move rfl)) ?_
    refine sr_skip rfl (wtd_no rfl rfl rfl rfl) rfl ?_
    refine sr_skip rfl (wtd_no rfl rfl rfl rfl) rfl ?_
    refine sr_x rfl (wtd_none rfl) rfl (Rd.x (x_pick_f rfl rfl rfl)) ?_
    refine sr_nil ?_
    refine aw_keep (keep_cons (t := 1) rfl (keep_cons (t := 5) rfl (keep_cons (t := 6) rfl (keep_cons (t := 9) rfl (keep_cons (t := 10) rfl (keep_cons (t := 11) rfl (keep_cons (t := 12) rfl (keep_cons (t := 13) rfl (keep_cons (t := 14) rfl (keep_cons (t := 15) rfl keep_nil)))))))))) ?_
    refine aw_false rfl ?_
    refine aw_exit ?_
    show AW _ _ _ _ _ _ _
    refine aw_seq_region ?_
    refine sr_x rfl (wtd_none rfl) rfl (Rd.x (x_move rfl)) ?_
    refine sr_x rfl (wtd_none rfl) rfl (Rd.x (x_assign rfl)) ?_
    refine sr_nil ?_
    refine aw_keep (keep_cons (t := 4) rfl keep_nil) ?_
    refine aw_ret ?_
    show ∃ v H2, ResV _ _ _ _ _ _ v ∧ Sub H2 _ ∧ _
    exact ⟨_, H, resV rfl (.cons rfl .nil), (by repeat (first | exact Sub.refl _ | apply Sub.drop)), ⟨congrArg (Value.int .i64) (waitL_at (by omega)), rfl⟩⟩
set_option maxRecDepth 100000 in
set_option maxHeartbeats 400000 in
theorem limit62_s (r : Rule) (v tries : Int) (H : SHeap) (hr : RRight r) : AC Try.prog W0 62 [r.v, .int .i64 v, .int .i64 tries] H (fun u H' => u = .int .i64 (limitL r v tries) ∧ H' = H) := by
  refine ac_of Try.func62 rfl rfl rfl ?_
  refine aw_seq_region ?_
  refine sr_new rfl (wtd_none rfl) rfl (x_box rfl rfl) ?_
  intro r0_0 hr0_0 gr0_0
  refine sr_x rfl (wtd_none rfl) rfl (Rd.x (x_assign rfl)) ?_
  refine sr_nil ?_
  refine aw_keep (keep_cons (t := 1) rfl (keep_cons (t := 2) rfl (keep_cons (t := 3) rfl (keep_cons (t := 6) rfl keep_nil)))) ?_
  refine aw_seq_region ?_
  refine sr_x rfl (wtd_none rfl) rfl (Rd.x (x_move rfl)) ?_
  refine sr_d rfl (wtd_none rfl) rfl (opS_call rfl rfl rfl rfl cl112 (satClamp_s _ _ _ _)) ?_
  rintro _ H ⟨rfl, rfl⟩
  refine sr_x rfl (wtd_none rfl) rfl (Rd.x (x_assign rfl)) ?_
  refine sr_nil ?_
  refine aw_keep (keep_cons (t := 1) rfl (keep_cons (t := 2) rfl (keep_cons (t := 3) rfl (keep_cons (t := 6) rfl keep_nil)))) ?_
  refine aw_seq ?_
  refine aw_seq_region ?_
  refine sr_x rfl (wtd_none rfl) rfl (Rd.x (x_move rfl)) ?_
  refine sr_x rfl (wtd_none rfl) rfl (Rd.x (x_max rfl rfl)) ?_
  refine sr_x rfl (wtd_none rfl) rfl (Rd.x (x_min rfl rfl)) ?_
  refine sr_x rfl (wtd_none rfl) rfl (Rd.x (x_add' rfl rfl (i64w (by omega) (by omega)))) ?_
  refine sr_x rfl (wtd_none rfl) rfl (Rd.x (x_move rfl)) ?_
  refine sr_nil ?_
  refine aw_keep (keep_cons (t := 1) rfl (keep_cons (t := 3) rfl (keep_cons (t := 6) rfl (keep_cons (t := 12) rfl (keep_cons (t := 13) rfl keep_nil))))) ?_
  refine aw_block ?_
  refine aw_loop (ι := Nat) (fun k => (k : Int) ≤ min (max tries 0) 127 + 1) (fun k => [(1, .int .i64 (limN r.grow v k)), (3, .pointer (some ⟨r0_0, 0, none⟩)), (12, .int .i64 (min (max tries 0) 127 + 1)), (13, .int .i64 k)]) (fun _ => (r0_0, .cells r.cells.toArray 89 (0, 0)) :: H) (fun k => (min (max tries 0) 127 + 1 - k).toNat) 0 (by omega) (by repeat (first | exact keep_nil | refine keep_cons rfl ?_)) (by repeat (first | exact Sub.refl _ | apply Sub.drop)) ?_
  intro k hk
  have hlm := limN_in (v := v) hr.2.2 k
  have hsm := (satMul_in hlm hr.2.2).1
  have hsm2 := satMul_range (limN r.grow v k) (100 + max r.grow 0)
  refine aw_seq_region ?_
  refine sr_cmp rfl (wtd_none rfl) rfl (Rd.x (x_lt rfl rfl)) (fun h1 => ?_) (fun h1 => ?_)
  · refine sr_nil ?_
    refine aw_keep (keep_cons (t := 1) rfl (keep_cons (t := 3) rfl (keep_cons (t := 12) rfl (keep_cons (t := 13) rfl (keep_cons (t := 14) rfl keep_nil))))) ?_
    refine aw_seq ?_
    refine aw_true rfl ?_
    refine aw_skip ?_
    show AW _ _ _ _ _ _ _
    refine aw_seq ?_
    refine aw_block ?_
    refine aw_region ?_
    refine sr_x rfl (wtd_none rfl) rfl (Rd.x (x_move rfl)) ?_
    refine sr_x rfl (wtd_none rfl) rfl (Rd.x (x_fieldAddr fd89_4 rfl)) ?_
    refine sr_x rfl (wtd_none rfl) rfl (Rd.x (x_load ag3 rfl (cells_ext (by repeat (first | exact List.mem_cons_self | apply List.mem_cons_of_mem | apply List.mem_append_right)) (by repeat (first | exact Ext.all _ | exact Ext.done | apply Ext.take | apply Ext.skip))))) ?_
    refine sr_x rfl (wtd_none rfl) rfl (Rd.x (x_max rfl rfl)) ?_
    refine sr_x rfl (wtd_none rfl) rfl (Rd.x (x_add' rfl rfl (i64w (by omega) (by omega)))) ?_
    refine sr_d rfl (wtd_none rfl) rfl (opS_call rfl rfl rfl rfl cl114 (satMul_s _ _ _)) ?_
    rintro _ H9 ⟨rfl, rfl⟩
    refine sr_d rfl (wtd_none rfl) rfl (opS_call rfl rfl rfl rfl cl113 (satCeil_s _ _ _ (by omega))) ?_
    rintro _ H9 ⟨rfl, rfl⟩
    refine sr_x rfl (wtd_none rfl) rfl (Rd.x (x_min rfl rfl)) ?_
    refine sr_x rfl (wtd_none rfl) rfl (Rd.x (x_assign rfl)) ?_
    refine sr_nil ?_
    show AW _ _ _ _ _ _ _
    refine aw_region ?_
    refine sr_x rfl (wtd_none rfl) rfl (Rd.x (x_add' rfl rfl (i64w (by omega) (by omega)))) ?_
    refine sr_x rfl (wtd_none rfl) rfl (Rd.x (x_move rfl)) ?_
    refine sr_nil ?_
    show ∃ s', _ ∧ _ ∧ _ ∧ _
    exact ⟨k + 1, by omega, by omega, (by repeat (first | exact keep_nil | refine keep_cons rfl ?_)), (by repeat (first | exact Sub.refl _ | apply Sub.drop))⟩
  · refine sr_nil ?_
    refine aw_keep (keep_cons (t := 1) rfl (keep_cons (t := 3) rfl (keep_cons (t := 12) rfl (keep_cons (t := 13) rfl (keep_cons (t := 14) rfl keep_nil))))) ?_
    refine aw_seq ?_
    refine aw_false rfl ?_
    refine aw_exit ?_
    show AW _ _ _ _ _ _ _
    refine aw_seq_region ?_
    refine sr_x rfl (wtd_none rfl) rfl (Rd.x (x_move rfl)) ?_
    refine sr_x rfl (wtd_none rfl) rfl (Rd.x (x_assign rfl)) ?_
    refine sr_nil ?_
    refine aw_keep (keep_cons (t := 6) rfl keep_nil) ?_
    refine aw_ret ?_
    show ∃ v H2, ResV _ _ _ _ _ _ v ∧ Sub H2 _ ∧ _
    exact ⟨_, H, resV rfl (.cons rfl .nil), (by repeat (first | exact Sub.refl _ | apply Sub.drop)), ⟨congrArg (Value.int .i64) (limitL_at (by omega)), rfl⟩⟩
set_option maxRecDepth 100000 in
set_option maxHeartbeats 2000000 in
theorem limit61_s (r : Rule) (v tries : Int) (H : SHeap) (hr : RRight r) : AC Try.prog W0 61 [r.v, .int .i64 v, .int .i64 tries] H (fun u H' => u = .int .i64 (limitL r v tries) ∧ H' = H) := by
  refine ac_of Try.func61 rfl rfl rfl ?_
  refine aw_seq_region ?_
  refine sr_new rfl (wtd_none rfl) rfl (x_box rfl rfl) ?_
  intro r0_0 hr0_0 gr0_0
  refine sr_x rfl (wtd_none rfl) rfl (Rd.x (x_assign rfl)) ?_
  refine sr_nil ?_
  refine aw_keep (keep_cons (t := 1) rfl (keep_cons (t := 2) rfl (keep_cons (t := 3) rfl (keep_cons (t := 6) rfl keep_nil)))) ?_
  refine aw_seq ?_
  refine aw_seq_region ?_
  refine sr_x rfl (wtd_none rfl) rfl (Rd.x (x_move rfl)) ?_
  refine sr_cmp rfl (wtd_none rfl) rfl (Rd.x (x_lt rfl rfl)) (fun h1 => ?_) (fun h1 => ?_)
  · refine sr_nil ?_
    refine aw_keep (keep_cons (t := 1) rfl (keep_cons (t := 2) rfl (keep_cons (t := 3) rfl (keep_cons (t := 6) rfl (keep_cons (t := 10) rfl keep_nil))))) ?_
    refine aw_true rfl ?_
    refine aw_region ?_
    refine sr_x rfl (wtd_none rfl) rfl (Rd.x (x_assign rfl)) ?_
    refine sr_nil ?_
    show AW _ _ _ _ _ _ _
    refine aw_seq ?_
    refine aw_seq_region ?_
    refine sr_x rfl (wtd_none rfl) rfl (Rd.x (x_move rfl)) ?_
    refine sr_cmp rfl (wtd_none rfl) rfl (Rd.x (x_gt rfl rfl)) (fun h2 => ?_) (fun h2 => ?_)
    · refine sr_nil ?_
      refine aw_keep (keep_cons (t := 1) rfl (keep_cons (t := 2) rfl (keep_cons (t := 3) rfl (keep_cons (t := 6) rfl (keep_cons (t := 12) rfl keep_nil))))) ?_
      refine aw_true rfl ?_
      refine aw_region ?_
      refine sr_x rfl (wtd_none rfl) rfl (Rd.x (x_assign rfl)) ?_
      refine sr_nil ?_
      show AW _ _ _ _ _ _ _
      refine aw_seq ?_
      refine aw_seq_region ?_
      refine sr_x rfl (wtd_none rfl) rfl (Rd.x (x_move rfl)) ?_
      refine sr_cmp rfl (wtd_none rfl) rfl (Rd.x (x_lt rfl rfl)) (fun h3 => ?_) (fun h3 => ?_)
      · refine sr_nil ?_
        refine aw_keep (keep_cons (t := 1) rfl (keep_cons (t := 2) rfl (keep_cons (t := 3) rfl (keep_cons (t := 6) rfl (keep_cons (t := 14) rfl keep_nil))))) ?_
        refine aw_true rfl ?_
        refine aw_region ?_
        refine sr_x rfl (wtd_none rfl) rfl (Rd.x (x_assign rfl)) ?_
        refine sr_nil ?_
        show AW _ _ _ _ _ _ _
        refine aw_seq ?_
        refine aw_seq_region ?_
        refine sr_x rfl (wtd_none rfl) rfl (Rd.x (x_assign rfl)) ?_
        refine sr_nil ?_
        refine aw_keep (keep_cons (t := 1) rfl (keep_cons (t := 2) rfl (keep_cons (t := 3) rfl (keep_cons (t := 6) rfl (keep_cons (t := 7) rfl keep_nil))))) ?_
        refine aw_block ?_
        refine aw_keep (keep_cons (t := 1) (v := .int .i64 (limN r.grow v 0)) (congrArg (fun x => some (Value.int .i64 x)) (by unfold limN; omega)) (keep_cons (t := 2) (v := .int .i64 (max tries 0)) (congrArg (fun x => some (Value.int .i64 x)) (by omega)) (keep_cons (t := 3) rfl (keep_cons (t := 7) rfl keep_nil)))) ?_
        refine aw_loop (ι := Nat) (fun k => (k : Int) ≤ min (max tries 0) 127 + 1) (fun k => [(1, .int .i64 (limN r.grow v k)), (2, .int .i64 (max tries 0)), (3, .pointer (some ⟨r0_0, 0, none⟩)), (7, .int .i64 k)]) (fun _ => (r0_0, .cells r.cells.toArray 89 (0, 0)) :: H) (fun k => (min (max tries 0) 127 + 1 - k).toNat) 0 (by omega) (by repeat (first | exact keep_nil | refine keep_cons rfl ?_)) (by repeat (first | exact Sub.refl _ | apply Sub.drop)) ?_
        intro k hk
        have hlm := limN_in (v := v) hr.2.2 k
        have hsm := satMul_in hlm hr.2.2
        have hlaw := stepL_law hlm hr.2.2
        rw [Int.tdiv_eq_ediv_of_nonneg (by omega), Int.tmod_eq_emod_of_nonneg (by omega)] at hlaw
        refine aw_seq ?_
        refine aw_seq_region ?_
        refine sr_x rfl (wtd_none rfl) rfl (Rd.x (x_move rfl)) ?_
        refine sr_x rfl (wtd_none rfl) rfl (Rd.x (x_move rfl)) ?_
        refine sr_cmp rfl (wtd_none rfl) rfl (Rd.x (x_le rfl rfl)) (fun h4 => ?_) (fun h4 => ?_)
        · refine sr_x rfl (wtd_none rfl) rfl (Rd.x (x_move rfl)) ?_
          refine sr_x rfl (wtd_yes rfl rfl rfl) rfl (Rd.x (x_move rfl)) ?_
          refine sr_cmp rfl (wtd_yes rfl rfl rfl) rfl (Rd.x (x_lt rfl rfl)) (fun h5 => ?_) (fun h5 => ?_)
          · refine sr_x rfl (wtd_none rfl) rfl (Rd.x (x_pick_t rfl rfl rfl)) ?_
            refine sr_nil ?_
            refine aw_keep (keep_cons (t := 1) rfl (keep_cons (t := 2) rfl (keep_cons (t := 3) rfl (keep_cons (t := 7) rfl (keep_cons (t := 15) rfl (keep_cons (t := 16) rfl (keep_cons (t := 17) rfl (keep_cons (t := 18) rfl (keep_cons (t := 19) rfl (keep_cons (t := 20) rfl (keep_cons (t := 21) rfl keep_nil))))))))))) ?_
            refine aw_true rfl ?_
            refine aw_skip ?_
            show AW _ _ _ _ _ _ _
            refine aw_seq ?_
            refine aw_block ?_
            refine aw_seq_region ?_
            refine sr_x rfl (wtd_none rfl) rfl (Rd.x (x_move rfl)) ?_
            refine sr_x rfl (wtd_none rfl) rfl (Rd.x (x_fieldAddr fd89_4 rfl)) ?_
            refine sr_x rfl (wtd_none rfl) rfl (Rd.x (x_load ag3 rfl (cells_ext (by repeat (first | exact List.mem_cons_self | apply List.mem_cons_of_mem | apply List.mem_append_right)) (by repeat (first | exact Ext.all _ | exact Ext.done | apply Ext.take | apply Ext.skip))))) ?_
            refine sr_x rfl (wtd_none rfl) rfl (Rd.x (x_add' rfl rfl (i64w (by omega) (by omega)))) ?_
            refine sr_x rfl (wtd_none rfl) rfl (Rd.x (x_mul' rfl rfl (i64w (by omega) (by omega)))) ?_
            refine sr_x rfl (wtd_none rfl) rfl (Rd.x (x_assign rfl)) ?_
            refine sr_nil ?_
            refine aw_keep (keep_cons (t := 1) rfl (keep_cons (t := 2) rfl (keep_cons (t := 3) rfl (keep_cons (t := 7) rfl (keep_cons (t := 8) rfl (keep_cons (t := 15) rfl (keep_cons (t := 16) rfl (keep_cons (t := 17) rfl (keep_cons (t := 18) rfl (keep_cons (t := 19) rfl (keep_cons (t := 20) rfl (keep_cons (t := 21) rfl (keep_cons (t := 24) rfl (keep_cons (t := 25) rfl (keep_cons (t := 26) rfl (keep_cons (t := 27) rfl (keep_cons (t := 28) rfl keep_nil))))))))))))))))) ?_
            refine aw_seq_region ?_
            refine sr_x rfl (wtd_none rfl) rfl (Rd.x (x_move rfl)) ?_
            refine sr_x rfl (wtd_none rfl) rfl (Rd.x (x_cast (u := .int .i64 (limN r.grow v k * (100 + r.grow) / 100)) (x_quo' rfl rfl (by omega) (i64w (by rw [Int.tdiv_eq_ediv_of_nonneg (by omega)]; omega) (by rw [Int.tdiv_eq_ediv_of_nonneg (by omega)]; omega))) (by rw [Int.tdiv_eq_ediv_of_nonneg (by omega)]))) ?_
            refine sr_x rfl (wtd_none rfl) rfl (Rd.x (x_assign rfl)) ?_
            refine sr_nil ?_
            refine aw_keep (keep_cons (t := 1) rfl (keep_cons (t := 2) rfl (keep_cons (t := 3) rfl (keep_cons (t := 7) rfl (keep_cons (t := 8) rfl (keep_cons (t := 15) rfl (keep_cons (t := 16) rfl (keep_cons (t := 17) rfl (keep_cons (t := 18) rfl (keep_cons (t := 19) rfl (keep_cons (t := 20) rfl (keep_cons (t := 21) rfl (keep_cons (t := 24) rfl (keep_cons (t := 25) rfl (keep_cons (t := 26) rfl (keep_cons (t := 27) rfl (keep_cons (t := 28) rfl (keep_cons (t := 29) rfl (keep_cons (t := 30) rfl keep_nil))))))))))))))))))) ?_
            refine aw_seq ?_
            refine aw_seq_region ?_
            refine sr_x rfl (wtd_none rfl) rfl (Rd.x (x_move rfl)) ?_
            refine sr_x rfl (wtd_none rfl) rfl (Rd.x (x_cast (u := .int .i64 (limN r.grow v k * (100 + r.grow) % 100)) (x_rem rfl rfl (by omega)) (by rw [Int.tmod_eq_emod_of_nonneg (by omega)]))) ?_
            refine sr_cmp rfl (wtd_none rfl) rfl (Rd.x (x_gt rfl rfl)) (fun h6 => ?_) (fun h6 => ?_)
            · refine sr_nil ?_
              refine aw_keep (keep_cons (t := 1) rfl (keep_cons (t := 2) rfl (keep_cons (t := 3) rfl (keep_cons (t := 7) rfl (keep_cons (t := 8) rfl (keep_cons (t := 15) rfl (keep_cons (t := 16) rfl (keep_cons (t := 17) rfl (keep_cons (t := 18) rfl (keep_cons (t := 19) rfl (keep_cons (t := 20) rfl (keep_cons (t := 21) rfl (keep_cons (t := 24) rfl (keep_cons (t := 25) rfl (keep_cons (t := 26) rfl (keep_cons (t := 27) rfl (keep_cons (t := 28) rfl (keep_cons (t := 29) rfl (keep_cons (t := 30) rfl (keep_cons (t := 31) rfl (keep_cons (t := 32) rfl (keep_cons (t := 33) rfl keep_nil)))))))))))))))))))))) ?_
              refine aw_true rfl ?_
              refine aw_region ?_
              refine sr_x rfl (wtd_none rfl) rfl (Rd.x (x_move rfl)) ?_
              refine sr_x rfl (wtd_none rfl) rfl (Rd.x (x_add' rfl rfl (i64w (by omega) (by omega)))) ?_
              refine sr_x rfl (wtd_none rfl) rfl (Rd.x (x_assign rfl)) ?_
              refine sr_nil ?_
              show AW _ _ _ _ _ _ _
              refine aw_seq_region ?_
              refine sr_x rfl (wtd_none rfl) rfl (Rd.x (x_move rfl)) ?_
              refine sr_cmp rfl (wtd_none rfl) rfl (Rd.x (x_gt rfl rfl)) (fun h7 => ?_) (fun h7 => ?_)
              · refine sr_nil ?_
                refine aw_keep (keep_cons (t := 1) rfl (keep_cons (t := 2) rfl (keep_cons (t := 3) rfl (keep_cons (t := 7) rfl (keep_cons (t := 8) rfl (keep_cons (t := 15) rfl (keep_cons (t := 16) rfl (keep_cons (t := 17) rfl (keep_cons (t := 18) rfl (keep_cons (t := 19) rfl (keep_cons (t := 20) rfl (keep_cons (t := 21) rfl (keep_cons (t := 24) rfl (keep_cons (t := 25) rfl (keep_cons (t := 26) rfl (keep_cons (t := 27) rfl (keep_cons (t := 28) rfl (keep_cons (t := 29) rfl (keep_cons (t := 30) rfl (keep_cons (t := 31) rfl (keep_cons (t := 32) rfl (keep_cons (t := 33) rfl (keep_cons (t := 34) rfl (keep_cons (t := 35) rfl (keep_cons (t := 36) rfl (keep_cons (t := 37) rfl keep_nil)))))))))))))))))))))))))) ?_
                refine aw_true rfl ?_
                refine aw_region ?_
                refine sr_x rfl (wtd_none rfl) rfl (Rd.x (x_assign rfl)) ?_
                refine sr_nil ?_
                show AW _ _ _ _ _ _ _
                refine aw_region ?_
                refine sr_x rfl (wtd_none rfl) rfl (Rd.x (x_move rfl)) ?_
                refine sr_x rfl (wtd_none rfl) rfl (Rd.x (x_add' rfl rfl (i64w (by omega) (by omega)))) ?_
                refine sr_x rfl (wtd_none rfl) rfl (Rd.x (x_assign rfl)) ?_
                refine sr_nil ?_
                show ∃ s', _ ∧ _ ∧ _ ∧ _
                exact ⟨k + 1, by omega, by omega, (keep_cons (t := 1) (v := .int .i64 (limN r.grow v (k + 1))) (congrArg (fun x => some (Value.int .i64 x)) (by show _ = stepL r.grow (limN r.grow v k); rw [hlaw]; omega)) (by repeat (first | exact keep_nil | refine keep_cons rfl ?_))), (by repeat (first | exact Sub.refl _ | apply Sub.drop))⟩
              · refine sr_nil ?_
                refine aw_keep (keep_cons (t := 1) rfl (keep_cons (t := 2) rfl (keep_cons (t := 3) rfl (keep_cons (t := 7) rfl (keep_cons (t := 8) rfl (keep_cons (t := 15) rfl (keep_cons (t := 16) rfl (keep_cons (t := 17) rfl (keep_cons (t := 18) rfl (keep_cons (t := 19) rfl (keep_cons (t := 20) rfl (keep_cons (t := 21) rfl (keep_cons (t := 24) rfl (keep_cons (t := 25) rfl (keep_cons (t := 26) rfl (keep_cons (t := 27) rfl (keep_cons (t := 28) rfl (keep_cons (t := 29) rfl (keep_cons (t := 30) rfl (keep_cons (t := 31) rfl (keep_cons (t := 32) rfl (keep_cons (t := 33) rfl (keep_cons (t := 34) rfl (keep_cons (t := 35) rfl (keep_cons (t := 36) rfl (keep_cons (t := 37) rfl keep_nil)))))))))))))))))))))))))) ?_
                refine aw_false rfl ?_
                refine aw_skip ?_
                show AW _ _ _ _ _ _ _
                refine aw_region ?_
                refine sr_x rfl (wtd_none rfl) rfl (Rd.x (x_move rfl)) ?_
                refine sr_x rfl (wtd_none rfl) rfl (Rd.x (x_add' rfl rfl (i64w (by omega) (by omega)))) ?_
                refine sr_x rfl (wtd_none rfl) rfl (Rd.x (x_assign rfl)) ?_
                refine sr_nil ?_
                show ∃ s', _ ∧ _ ∧ _ ∧ _
                exact ⟨k + 1, by omega, by omega, (keep_cons (t := 1) (v := .int .i64 (limN r.grow v (k + 1))) (congrArg (fun x => some (Value.int .i64 x)) (by show _ = stepL r.grow (limN r.grow v k); rw [hlaw]; omega)) (by repeat (first | exact keep_nil | refine keep_cons rfl ?_))), (by repeat (first | exact Sub.refl _ | apply Sub.drop))⟩
            · refine sr_nil ?_
              refine aw_keep (keep_cons (t := 1) rfl (keep_cons (t := 2) rfl (keep_cons (t := 3) rfl (keep_cons (t := 7) rfl (keep_cons (t := 8) rfl (keep_cons (t := 15) rfl (keep_cons (t := 16) rfl (keep_cons (t := 17) rfl (keep_cons (t := 18) rfl (keep_cons (t := 19) rfl (keep_cons (t := 20) rfl (keep_cons (t := 21) rfl (keep_cons (t := 24) rfl (keep_cons (t := 25) rfl (keep_cons (t := 26) rfl (keep_cons (t := 27) rfl (keep_cons (t := 28) rfl (keep_cons (t := 29) rfl (keep_cons (t := 30) rfl (keep_cons (t := 31) rfl (keep_cons (t := 32) rfl (keep_cons (t := 33) rfl keep_nil)))))))))))))))))))))) ?_
              refine aw_false rfl ?_
              refine aw_skip ?_
              show AW _ _ _ _ _ _ _
              refine aw_seq_region ?_
              refine sr_x rfl (wtd_none rfl) rfl (Rd.x (x_move rfl)) ?_
              refine sr_cmp rfl (wtd_none rfl) rfl (Rd.x (x_gt rfl rfl)) (fun h8 => ?_) (fun h8 => ?_)
              · refine sr_nil ?_
                refine aw_keep (keep_cons (t := 1) rfl (keep_cons (t := 2) rfl (keep_cons (t := 3) rfl (keep_cons (t := 7) rfl (keep_cons (t := 8) rfl (keep_cons (t := 15) rfl (keep_cons (t := 16) rfl (keep_cons (t := 17) rfl (keep_cons (t := 18) rfl (keep_cons (t := 19) rfl (keep_cons (t := 20) rfl (keep_cons (t := 21) rfl (keep_cons (t := 24) rfl (keep_cons (t := 25) rfl (keep_cons (t := 26) rfl (keep_cons (t := 27) rfl (keep_cons (t := 28) rfl (keep_cons (t := 29) rfl (keep_cons (t := 30) rfl (keep_cons (t := 31) rfl (keep_cons (t := 32) rfl (keep_cons (t := 33) rfl (keep_cons (t := 36) rfl (keep_cons (t := 37) rfl keep_nil)))))))))))))))))))))))) ?_
                refine aw_true rfl ?_
                refine aw_region ?_
                refine sr_x rfl (wtd_none rfl) rfl (Rd.x (x_assign rfl)) ?_
                refine sr_nil ?_
                show AW _ _ _ _ _ _ _
                refine aw_region ?_
                refine sr_x rfl (wtd_none rfl) rfl (Rd.x (x_move rfl)) ?_
                refine sr_x rfl (wtd_none rfl) rfl (Rd.x (x_add' rfl rfl (i64w (by omega) (by omega)))) ?_
                refine sr_x rfl (wtd_none rfl) rfl (Rd.x (x_assign rfl)) ?_
                refine sr_nil ?_
                show ∃ s', _ ∧ _ ∧ _ ∧ _
                exact ⟨k + 1, by omega, by omega, (keep_cons (t := 1) (v := .int .i64 (limN r.grow v (k + 1))) (congrArg (fun x => some (Value.int .i64 x)) (by show _ = stepL r.grow (limN r.grow v k); rw [hlaw]; omega)) (by repeat (first | exact keep_nil | refine keep_cons rfl ?_))), (by repeat (first | exact Sub.refl _ | apply Sub.drop))⟩
              · refine sr_nil ?_
                refine aw_keep (keep_cons (t := 1) rfl (keep_cons (t := 2) rfl (keep_cons (t := 3) rfl (keep_cons (t := 7) rfl (keep_cons (t := 8) rfl (keep_cons (t := 15) rfl (keep_cons (t := 16) rfl (keep_cons (t := 17) rfl (keep_cons (t := 18) rfl (keep_cons (t := 19) rfl (keep_cons (t := 20) rfl (keep_cons (t := 21) rfl (keep_cons (t := 24) rfl (keep_cons (t := 25) rfl (keep_cons (t := 26) rfl (keep_cons (t := 27) rfl (keep_cons (t := 28) rfl (keep_cons (t := 29) rfl (keep_cons (t := 30) rfl (keep_cons (t := 31) rfl (keep_cons (t := 32) rfl (keep_cons (t := 33) rfl (keep_cons (t := 36) rfl (keep_cons (t := 37) rfl keep_nil)))))))))))))))))))))))) ?_
                refine aw_false rfl ?_
                refine aw_skip ?_
                show AW _ _ _ _ _ _ _
                refine aw_region ?_
                refine sr_x rfl (wtd_none rfl) rfl (Rd.x (x_move rfl)) ?_
                refine sr_x rfl (wtd_none rfl) rfl (Rd.x (x_add' rfl rfl (i64w (by omega) (by omega)))) ?_
                refine sr_x rfl (wtd_none rfl) rfl (Rd.x (x_assign rfl)) ?_
                refine sr_nil ?_
                show ∃ s', _ ∧ _ ∧ _ ∧ _
                exact ⟨k + 1, by omega, by omega, (keep_cons (t := 1) (v := .int .i64 (limN r.grow v (k + 1))) (congrArg (fun x => some (Value.int .i64 x)) (by show _ = stepL r.grow (limN r.grow v k); rw [hlaw]; omega)) (by repeat (first | exact keep_nil | refine keep_cons rfl ?_))), (by repeat (first | exact Sub.refl _ | apply Sub.drop))⟩
          · refine sr_x rfl (wtd_none rfl) rfl (Rd.x (x_pick_t rfl rfl rfl)) ?_
            refine sr_nil ?_
            refine aw_keep (keep_cons (t := 1) rfl (keep_cons (t := 2) rfl (keep_cons (t := 3) rfl (keep_cons (t := 7) rfl (keep_cons (t := 15) rfl (keep_cons (t := 16) rfl (keep_cons (t := 17) rfl (keep_cons (t := 18) rfl (keep_cons (t := 19) rfl (keep_cons (t := 20) rfl (keep_cons (t := 21) rfl keep_nil))))))))))) ?_
            refine aw_false rfl ?_
            refine aw_exit ?_
            show AW _ _ _ _ _ _ _
            refine aw_seq_region ?_
            refine sr_x rfl (wtd_none rfl) rfl (Rd.x (x_move rfl)) ?_
            refine sr_x rfl (wtd_none rfl) rfl (Rd.x (x_assign rfl)) ?_
            refine sr_nil ?_
            refine aw_keep (keep_cons (t := 6) rfl keep_nil) ?_
            refine aw_ret ?_
            show ∃ v H2, ResV _ _ _ _ _ _ v ∧ Sub H2 _ ∧ _
            exact ⟨_, H, resV rfl (.cons rfl .nil), (by repeat (first | exact Sub.refl _ | apply Sub.drop)), ⟨congrArg (Value.int .i64) (limitL_at (by omega)), rfl⟩⟩
        · refine sr_x rfl (wtd_none rfl) rfl (Rd.x (x_move rfl)) ?_
          refine sr_skip rfl (wtd_no rfl rfl rfl rfl) rfl ?_
          refine sr_skip rfl (wtd_no rfl rfl rfl rfl) rfl ?_
          refine sr_x rfl (wtd_none rfl) rfl (Rd.x (x_pick_f rfl rfl rfl)) ?_
          refine sr_nil ?_
          refine aw_keep (keep_cons (t := 1) rfl (keep_cons (t := 2) rfl (keep_cons (t := 3) rfl (keep_cons (t := 7) rfl (keep_cons (t := 15) rfl (keep_cons (t := 16) rfl (keep_cons (t := 17) rfl (keep_cons (t := 18) rfl (keep_cons (t := 19) rfl (keep_cons (t := 20) rfl (keep_cons (t := 21) rfl keep_nil))))))))))) ?_
          refine aw_false rfl ?_
          refine aw_exit ?_
          show AW _ _ _ _ _ _ _
          refine aw_seq_region ?_
          refine sr_x rfl (wtd_none rfl) rfl (Rd.x (x_move rfl)) ?_
          refine sr_x rfl (wtd_none rfl) rfl (Rd.x (x_assign rfl)) ?_
          refine sr_nil ?_
          refine aw_keep (keep_cons (t := 6) rfl keep_nil) ?_
          refine aw_ret ?_
          show ∃ v H2, ResV _ _ _ _ _ _ v ∧ Sub H2 _ ∧ _
          exact ⟨_, H, resV rfl (.cons rfl .nil), (by repeat (first | exact Sub.refl _ | apply Sub.drop)), ⟨congrArg (Value.int .i64) (limitL_at (by omega)), rfl⟩⟩
      · refine sr_nil ?_
        refine aw_keep (keep_cons (t := 1) rfl (keep_cons (t := 2) rfl (keep_cons (t := 3) rfl (keep_cons (t := 6) rfl (keep_cons (t := 14) rfl keep_nil))))) ?_
        refine aw_false rfl ?_
        refine aw_skip ?_
        show AW _ _ _ _ _ _ _
        refine aw_seq ?_
        refine aw_seq_region ?_
        refine sr_x rfl (wtd_none rfl) rfl (Rd.x (x_assign rfl)) ?_
        refine sr_nil ?_
        refine aw_keep (keep_cons (t := 1) rfl (keep_cons (t := 2) rfl (keep_cons (t := 3) rfl (keep_cons (t := 6) rfl (keep_cons (t := 7) rfl keep_nil))))) ?_
        refine aw_block ?_
        refine aw_keep (keep_cons (t := 1) (v := .int .i64 (limN r.grow v 0)) (congrArg (fun x => some (Value.int .i64 x)) (by unfold limN; omega)) (keep_cons (t := 2) (v := .int .i64 (max tries 0)) (congrArg (fun x => some (Value.int .i64 x)) (by omega)) (keep_cons (t := 3) rfl (keep_cons (t := 7) rfl keep_nil)))) ?_
        refine aw_loop (ι := Nat) (fun k => (k : Int) ≤ min (max tries 0) 127 + 1) (fun k => [(1, .int .i64 (limN r.grow v k)), (2, .int .i64 (max tries 0)), (3, .pointer (some ⟨r0_0, 0, none⟩)), (7, .int .i64 k)]) (fun _ => (r0_0, .cells r.cells.toArray 89 (0, 0)) :: H) (fun k => (min (max tries 0) 127 + 1 - k).toNat) 0 (by omega) (by repeat (first | exact keep_nil | refine keep_cons rfl ?_)) (by repeat (first | exact Sub.refl _ | apply Sub.drop)) ?_
        intro k hk
        have hlm := limN_in (v := v) hr.2.2 k
        have hsm := satMul_in hlm hr.2.2
        have hlaw := stepL_law hlm hr.2.2
        rw [Int.tdiv_eq_ediv_of_nonneg (by omega), Int.tmod_eq_emod_of_nonneg (by omega)] at hlaw
        refine aw_seq ?_
        refine aw_seq_region ?_
        refine sr_x rfl (wtd_none rfl) rfl (Rd.x (x_move rfl)) ?_
        refine sr_x rfl (wtd_none rfl) rfl (Rd.x (x_move rfl)) ?_
        refine sr_cmp rfl (wtd_none rfl) rfl (Rd.x (x_le rfl rfl)) (fun h9 => ?_) (fun h9 => ?_)
        · refine sr_x rfl (wtd_none rfl) rfl (Rd.x (x_move rfl)) ?_
          refine sr_x rfl (wtd_yes rfl rfl rfl) rfl (Rd.x (x_move rfl)) ?_
          refine sr_cmp rfl (wtd_yes rfl rfl rfl) rfl (Rd.x (x_lt rfl rfl)) (fun h10 => ?_) (fun h10 => ?_)
          · refine sr_x rfl (wtd_none rfl) rfl (Rd.x (x_pick_t rfl rfl rfl)) ?_
            refine sr_nil ?_
            refine aw_keep (keep_cons (t := 1) rfl (keep_cons (t := 2) rfl (keep_cons (t := 3) rfl (keep_cons (t := 7) rfl (keep_cons (t := 15) rfl (keep_cons (t := 16) rfl (keep_cons (t := 17) rfl (keep_cons (t := 18) rfl (keep_cons (t := 19) rfl (keep_cons (t := 20) rfl (keep_cons (t := 21) rfl keep_nil))))))))))) ?_
            refine aw_true rfl ?_
            refine aw_skip ?_
            show AW _ _ _ _ _ _ _
            refine aw_seq ?_
            refine aw_block ?_
            refine aw_seq_region ?_
            refine sr_x rfl (wtd_none rfl) rfl (Rd.x (x_move rfl)) ?_
            refine sr_x rfl (wtd_none rfl) rfl (Rd.x (x_fieldAddr fd89_4 rfl)) ?_
            refine sr_x rfl (wtd_none rfl) rfl (Rd.x (x_load ag3 rfl (cells_ext (by repeat (first | exact List.mem_cons_self | apply List.mem_cons_of_mem | apply List.mem_append_right)) (by repeat (first | exact Ext.all _ | exact Ext.done | apply Ext.take | apply Ext.skip))))) ?_
            refine sr_x rfl (wtd_none rfl) rfl (Rd.x (x_add' rfl rfl (i64w (by omega) (by omega)))) ?_
            refine sr_x rfl (wtd_none rfl) rfl (Rd.x (x_mul' rfl rfl (i64w (by omega) (by omega)))) ?_
            refine sr_x rfl (wtd_none rfl) rfl (Rd.x (x_assign rfl)) ?_
            refine sr_nil ?_
            refine aw_keep (keep_cons (t := 1) rfl (keep_cons (t := 2) rfl (keep_cons (t := 3) rfl (keep_cons (t := 7) rfl (keep_cons (t := 8) rfl (keep_cons (t := 15) rfl (keep_cons (t := 16) rfl (keep_cons (t := 17) rfl (keep_cons (t := 18) rfl (keep_cons (t := 19) rfl (keep_cons (t := 20) rfl (keep_cons (t := 21) rfl (keep_cons (t := 24) rfl (keep_cons (t := 25) rfl (keep_cons (t := 26) rfl (keep_cons (t := 27) rfl (keep_cons (t := 28) rfl keep_nil))))))))))))))))) ?_
            refine aw_seq_region ?_
            refine sr_x rfl (wtd_none rfl) rfl (Rd.x (x_move rfl)) ?_
            refine sr_x rfl (wtd_none rfl) rfl (Rd.x (x_cast (u := .int .i64 (limN r.grow v k * (100 + r.grow) / 100)) (x_quo' rfl rfl (by omega) (i64w (by rw [Int.tdiv_eq_ediv_of_nonneg (by omega)]; omega) (by rw [Int.tdiv_eq_ediv_of_nonneg (by omega)]; omega))) (by rw [Int.tdiv_eq_ediv_of_nonneg (by omega)]))) ?_
            refine sr_x rfl (wtd_none rfl) rfl (Rd.x (x_assign rfl)) ?_
            refine sr_nil ?_
            refine aw_keep (keep_cons (t := 1) rfl (keep_cons (t := 2) rfl (keep_cons (t := 3) rfl (keep_cons (t := 7) rfl (keep_cons (t := 8) rfl (keep_cons (t := 15) rfl (keep_cons (t := 16) rfl (keep_cons (t := 17) rfl (keep_cons (t := 18) rfl (keep_cons (t := 19) rfl (keep_cons (t := 20) rfl (keep_cons (t := 21) rfl (keep_cons (t := 24) rfl (keep_cons (t := 25) rfl (keep_cons (t := 26) rfl (keep_cons (t := 27) rfl (keep_cons (t := 28) rfl (keep_cons (t := 29) rfl (keep_cons (t := 30) rfl keep_nil))))))))))))))))))) ?_
            refine aw_seq ?_
            refine aw_seq_region ?_
            refine sr_x rfl (wtd_none rfl) rfl (Rd.x (x_move rfl)) ?_
            refine sr_x rfl (wtd_none rfl) rfl (Rd.x (x_cast (u := .int .i64 (limN r.grow v k * (100 + r.grow) % 100)) (x_rem rfl rfl (by omega)) (by rw [Int.tmod_eq_emod_of_nonneg (by omega)]))) ?_
            refine sr_cmp rfl (wtd_none rfl) rfl (Rd.x (x_gt rfl rfl)) (fun h11 => ?_) (fun h11 => ?_)
            · refine sr_nil ?_
              refine aw_keep (keep_cons (t := 1) rfl (keep_cons (t := 2) rfl (keep_cons (t := 3) rfl (keep_cons (t := 7) rfl (keep_cons (t := 8) rfl (keep_cons (t := 15) rfl (keep_cons (t := 16) rfl (keep_cons (t := 17) rfl (keep_cons (t := 18) rfl (keep_cons (t := 19) rfl (keep_cons (t := 20) rfl (keep_cons (t := 21) rfl (keep_cons (t := 24) rfl (keep_cons (t := 25) rfl (keep_cons (t := 26) rfl (keep_cons (t := 27) rfl (keep_cons (t := 28) rfl (keep_cons (t := 29) rfl (keep_cons (t := 30) rfl (keep_cons (t := 31) rfl (keep_cons (t := 32) rfl (keep_cons (t := 33) rfl keep_nil)))))))))))))))))))))) ?_
              refine aw_true rfl ?_
              refine aw_region ?_
              refine sr_x rfl (wtd_none rfl) rfl (Rd.x (x_move rfl)) ?_
              refine sr_x rfl (wtd_none rfl) rfl (Rd.x (x_add' rfl rfl (i64w (by omega) (by omega)))) ?_
              refine sr_x rfl (wtd_none rfl) rfl (Rd.x (x_assign rfl)) ?_
              refine sr_nil ?_
              show AW _ _ _ _ _ _ _
              refine aw_seq_region ?_
              refine sr_x rfl (wtd_none rfl) rfl (Rd.x (x_move rfl)) ?_
              refine sr_cmp rfl (wtd_none rfl) rfl (Rd.x (x_gt rfl rfl)) (fun h12 => ?_) (fun h12 => ?_)
              · refine sr_nil ?_
                refine aw_keep (keep_cons (t := 1) rfl (keep_cons (t := 2) rfl (keep_cons (t := 3) rfl (keep_cons (t := 7) rfl (keep_cons (t := 8) rfl (keep_cons (t := 15) rfl (keep_cons (t := 16) rfl (keep_cons (t := 17) rfl (keep_cons (t := 18) rfl (keep_cons (t := 19) rfl (keep_cons (t := 20) rfl (keep_cons (t := 21) rfl (keep_cons (t := 24) rfl (keep_cons (t := 25) rfl (keep_cons (t := 26) rfl (keep_cons (t := 27) rfl (keep_cons (t := 28) rfl (keep_cons (t := 29) rfl (keep_cons (t := 30) rfl (keep_cons (t := 31) rfl (keep_cons (t := 32) rfl (keep_cons (t := 33) rfl (keep_cons (t := 34) rfl (keep_cons (t := 35) rfl (keep_cons (t := 36) rfl (keep_cons (t := 37) rfl keep_nil)))))))))))))))))))))))))) ?_
                refine aw_true rfl ?_
                refine aw_region ?_
                refine sr_x rfl (wtd_none rfl) rfl (Rd.x (x_assign rfl)) ?_
                refine sr_nil ?_
                show AW _ _ _ _ _ _ _
                refine aw_region ?_
                refine sr_x rfl (wtd_none rfl) rfl (Rd.x (x_move rfl)) ?_
                refine sr_x rfl (wtd_none rfl) rfl (Rd.x (x_add' rfl rfl (i64w (by omega) (by omega)))) ?_
                refine sr_x rfl (wtd_none rfl) rfl (Rd.x (x_assign rfl)) ?_
                refine sr_nil ?_
                show ∃ s', _ ∧ _ ∧ _ ∧ _
                exact ⟨k + 1, by omega, by omega, (keep_cons (t := 1) (v := .int .i64 (limN r.grow v (k + 1))) (congrArg (fun x => some (Value.int .i64 x)) (by show _ = stepL r.grow (limN r.grow v k); rw [hlaw]; omega)) (by repeat (first | exact keep_nil | refine keep_cons rfl ?_))), (by repeat (first | exact Sub.refl _ | apply Sub.drop))⟩
              · refine sr_nil ?_
                refine aw_keep (keep_cons (t := 1) rfl (keep_cons (t := 2) rfl (keep_cons (t := 3) rfl (keep_cons (t := 7) rfl (keep_cons (t := 8) rfl (keep_cons (t := 15) rfl (keep_cons (t := 16) rfl (keep_cons (t := 17) rfl (keep_cons (t := 18) rfl (keep_cons (t := 19) rfl (keep_cons (t := 20) rfl (keep_cons (t := 21) rfl (keep_cons (t := 24) rfl (keep_cons (t := 25) rfl (keep_cons (t := 26) rfl (keep_cons (t := 27) rfl (keep_cons (t := 28) rfl (keep_cons (t := 29) rfl (keep_cons (t := 30) rfl (keep_cons (t := 31) rfl (keep_cons (t := 32) rfl (keep_cons (t := 33) rfl (keep_cons (t := 34) rfl (keep_cons (t := 35) rfl (keep_cons (t := 36) rfl (keep_cons (t := 37) rfl keep_nil)))))))))))))))))))))))))) ?_
                refine aw_false rfl ?_
                refine aw_skip ?_
                show AW _ _ _ _ _ _ _
                refine aw_region ?_
                refine sr_x rfl (wtd_none rfl) rfl (Rd.x (x_move rfl)) ?_
                refine sr_x rfl (wtd_none rfl) rfl (Rd.x (x_add' rfl rfl (i64w (by omega) (by omega)))) ?_
                refine sr_x rfl (wtd_none rfl) rfl (Rd.x (x_assign rfl)) ?_
                refine sr_nil ?_
                show ∃ s', _ ∧ _ ∧ _ ∧ _
                exact ⟨k + 1, by omega, by omega, (keep_cons (t := 1) (v := .int .i64 (limN r.grow v (k + 1))) (congrArg (fun x => some (Value.int .i64 x)) (by show _ = stepL r.grow (limN r.grow v k); rw [hlaw]; omega)) (by repeat (first | exact keep_nil | refine keep_cons rfl ?_))), (by repeat (first | exact Sub.refl _ | apply Sub.drop))⟩
            · refine sr_nil ?_
              refine aw_keep (keep_cons (t := 1) rfl (keep_cons (t := 2) rfl (keep_cons (t := 3) rfl (keep_cons (t := 7) rfl (keep_cons (t := 8) rfl (keep_cons (t := 15) rfl (keep_cons (t := 16) rfl (keep_cons (t := 17) rfl (keep_cons (t := 18) rfl (keep_cons (t := 19) rfl (keep_cons (t := 20) rfl (keep_cons (t := 21) rfl (keep_cons (t := 24) rfl (keep_cons (t := 25) rfl (keep_cons (t := 26) rfl (keep_cons (t := 27) rfl (keep_cons (t := 28) rfl (keep_cons (t := 29) rfl (keep_cons (t := 30) rfl (keep_cons (t := 31) rfl (keep_cons (t := 32) rfl (keep_cons (t := 33) rfl keep_nil)))))))))))))))))))))) ?_
              refine aw_false rfl ?_
              refine aw_skip ?_
              show AW _ _ _ _ _ _ _
              refine aw_seq_region ?_
              refine sr_x rfl (wtd_none rfl) rfl (Rd.x (x_move rfl)) ?_
              refine sr_cmp rfl (wtd_none rfl) rfl (Rd.x (x_gt rfl rfl)) (fun h13 => ?_) (fun h13 => ?_)
              · refine sr_nil ?_
                refine aw_keep (keep_cons (t := 1) rfl (keep_cons (t := 2) rfl (keep_cons (t := 3) rfl (keep_cons (t := 7) rfl (keep_cons (t := 8) rfl (keep_cons (t := 15) rfl (keep_cons (t := 16) rfl (keep_cons (t := 17) rfl (keep_cons (t := 18) rfl (keep_cons (t := 19) rfl (keep_cons (t := 20) rfl (keep_cons (t := 21) rfl (keep_cons (t := 24) rfl (keep_cons (t := 25) rfl (keep_cons (t := 26) rfl (keep_cons (t := 27) rfl (keep_cons (t := 28) rfl (keep_cons (t := 29) rfl (keep_cons (t := 30) rfl (keep_cons (t := 31) rfl (keep_cons (t := 32) rfl (keep_cons (t := 33) rfl (keep_cons (t := 36) rfl (keep_cons (t := 37) rfl keep_nil)))))))))))))))))))))))) ?_
                refine aw_true rfl ?_
                refine aw_region ?_
                refine sr_x rfl (wtd_none rfl) rfl (Rd.x (x_assign rfl)) ?_
                refine sr_nil ?_
                show AW _ _ _ _ _ _ _
                refine aw_region ?_
                refine sr_x rfl (wtd_none rfl) rfl (Rd.x (x_move rfl)) ?_
                refine sr_x rfl (wtd_none rfl) rfl (Rd.x (x_add' rfl rfl (i64w (by omega) (by omega)))) ?_
                refine sr_x rfl (wtd_none rfl) rfl (Rd.x (x_assign rfl)) ?_
                refine sr_nil ?_
                show ∃ s', _ ∧ _ ∧ _ ∧ _
                exact ⟨k + 1, by omega, by omega, (keep_cons (t := 1) (v := .int .i64 (limN r.grow v (k + 1))) (congrArg (fun x => some (Value.int .i64 x)) (by show _ = stepL r.grow (limN r.grow v k); rw [hlaw]; omega)) (by repeat (first | exact keep_nil | refine keep_cons rfl ?_))), (by repeat (first | exact Sub.refl _ | apply Sub.drop))⟩
              · refine sr_nil ?_
                refine aw_keep (keep_cons (t := 1) rfl (keep_cons (t := 2) rfl (keep_cons (t := 3) rfl (keep_cons (t := 7) rfl (keep_cons (t := 8) rfl (keep_cons (t := 15) rfl (keep_cons (t := 16) rfl (keep_cons (t := 17) rfl (keep_cons (t := 18) rfl (keep_cons (t := 19) rfl (keep_cons (t := 20) rfl (keep_cons (t := 21) rfl (keep_cons (t := 24) rfl (keep_cons (t := 25) rfl (keep_cons (t := 26) rfl (keep_cons (t := 27) rfl (keep_cons (t := 28) rfl (keep_cons (t := 29) rfl (keep_cons (t := 30) rfl (keep_cons (t := 31) rfl (keep_cons (t := 32) rfl (keep_cons (t := 33) rfl (keep_cons (t := 36) rfl (keep_cons (t := 37) rfl keep_nil)))))))))))))))))))))))) ?_
                refine aw_false rfl ?_
                refine aw_skip ?_
                show AW _ _ _ _ _ _ _
                refine aw_region ?_
                refine sr_x rfl (wtd_none rfl) rfl (Rd.x (x_move rfl)) ?_
                refine sr_x rfl (wtd_none rfl) rfl (Rd.x (x_add' rfl rfl (i64w (by omega) (by omega)))) ?_
                refine sr_x rfl (wtd_none rfl) rfl (Rd.x (x_assign rfl)) ?_
                refine sr_nil ?_
                show ∃ s', _ ∧ _ ∧ _ ∧ _
                exact ⟨k + 1, by omega, by omega, (keep_cons (t := 1) (v := .int .i64 (limN r.grow v (k + 1))) (congrArg (fun x => some (Value.int .i64 x)) (by show _ = stepL r.grow (limN r.grow v k); rw [hlaw]; omega)) (by repeat (first | exact keep_nil | refine keep_cons rfl ?_))), (by repeat (first | exact Sub.refl _ | apply Sub.drop))⟩
          · refine sr_x rfl (wtd_none rfl) rfl (Rd.x (x_pick_t rfl rfl rfl)) ?_
            refine sr_nil ?_
            refine aw_keep (keep_cons (t := 1) rfl (keep_cons (t := 2) rfl (keep_cons (t := 3) rfl (keep_cons (t := 7) rfl (keep_cons (t := 15) rfl (keep_cons (t := 16) rfl (keep_cons (t := 17) rfl (keep_cons (t := 18) rfl (keep_cons (t := 19) rfl (keep_cons (t := 20) rfl (keep_cons (t := 21) rfl keep_nil))))))))))) ?_
            refine aw_false rfl ?_
            refine aw_exit ?_
            show AW _ _ _ _ _ _ _
            refine aw_seq_region ?_
            refine sr_x rfl (wtd_none rfl) rfl (Rd.x (x_move rfl)) ?_
            refine sr_x rfl (wtd_none rfl) rfl (Rd.x (x_assign rfl)) ?_
            refine sr_nil ?_
            refine aw_keep (keep_cons (t := 6) rfl keep_nil) ?_
            refine aw_ret ?_
            show ∃ v H2, ResV _ _ _ _ _ _ v ∧ Sub H2 _ ∧ _
            exact ⟨_, H, resV rfl (.cons rfl .nil), (by repeat (first | exact Sub.refl _ | apply Sub.drop)), ⟨congrArg (Value.int .i64) (limitL_at (by omega)), rfl⟩⟩
        · refine sr_x rfl (wtd_none rfl) rfl (Rd.x (x_move rfl)) ?_
          refine sr_skip rfl (wtd_no rfl rfl rfl rfl) rfl ?_
          refine sr_skip rfl (wtd_no rfl rfl rfl rfl) rfl ?_
          refine sr_x rfl (wtd_none rfl) rfl (Rd.x (x_pick_f rfl rfl rfl)) ?_
          refine sr_nil ?_
          refine aw_keep (keep_cons (t := 1) rfl (keep_cons (t := 2) rfl (keep_cons (t := 3) rfl (keep_cons (t := 7) rfl (keep_cons (t := 15) rfl (keep_cons (t := 16) rfl (keep_cons (t := 17) rfl (keep_cons (t := 18) rfl (keep_cons (t := 19) rfl (keep_cons (t := 20) rfl (keep_cons (t := 21) rfl keep_nil))))))))))) ?_
          refine aw_false rfl ?_
          refine aw_exit ?_
          show AW _ _ _ _ _ _ _
          refine aw_seq_region ?_
          refine sr_x rfl (wtd_none rfl) rfl (Rd.x (x_move rfl)) ?_
          refine sr_x rfl (wtd_none rfl) rfl (Rd.x (x_assign rfl)) ?_
          refine sr_nil ?_
          refine aw_keep (keep_cons (t := 6) rfl keep_nil) ?_
          refine aw_ret ?_
          show ∃ v H2, ResV _ _ _ _ _ _ v ∧ Sub H2 _ ∧ _
          exact ⟨_, H, resV rfl (.cons rfl .nil), (by repeat (first | exact Sub.refl _ | apply Sub.drop)), ⟨congrArg (Value.int .i64) (limitL_at (by omega)), rfl⟩⟩
    · refine sr_nil ?_
      refine aw_keep (keep_cons (t := 1) rfl (keep_cons (t := 2) rfl (keep_cons (t := 3) rfl (keep_cons (t := 6) rfl (keep_cons (t := 12) rfl keep_nil))))) ?_
      refine aw_false rfl ?_
      refine aw_skip ?_
      show AW _ _ _ _ _ _ _
      refine aw_seq ?_
      refine aw_seq_region ?_
      refine sr_x rfl (wtd_none rfl) rfl (Rd.x (x_move rfl)) ?_
      refine sr_cmp rfl (wtd_none rfl) rfl (Rd.x (x_lt rfl rfl)) (fun h14 => ?_) (fun h14 => ?_)
      · refine sr_nil ?_
        refine aw_keep (keep_cons (t := 1) rfl (keep_cons (t := 2) rfl (keep_cons (t := 3) rfl (keep_cons (t := 6) rfl (keep_cons (t := 14) rfl keep_nil))))) ?_
        refine aw_true rfl ?_
        refine aw_region ?_
        refine sr_x rfl (wtd_none rfl) rfl (Rd.x (x_assign rfl)) ?_
        refine sr_nil ?_
        show AW _ _ _ _ _ _ _
        refine aw_seq ?_
        refine aw_seq_region ?_
        refine sr_x rfl (wtd_none rfl) rfl (Rd.x (x_assign rfl)) ?_
        refine sr_nil ?_
        refine aw_keep (keep_cons (t := 1) rfl (keep_cons (t := 2) rfl (keep_cons (t := 3) rfl (keep_cons (t := 6) rfl (keep_cons (t := 7) rfl keep_nil))))) ?_
        refine aw_block ?_
        refine aw_keep (keep_cons (t := 1) (v := .int .i64 (limN r.grow v 0)) (congrArg (fun x => some (Value.int .i64 x)) (by unfold limN; omega)) (keep_cons (t := 2) (v := .int .i64 (max tries 0)) (congrArg (fun x => some (Value.int .i64 x)) (by omega)) (keep_cons (t := 3) rfl (keep_cons (t := 7) rfl keep_nil)))) ?_
        refine aw_loop (ι := Nat) (fun k => (k : Int) ≤ min (max tries 0) 127 + 1) (fun k => [(1, .int .i64 (limN r.grow v k)), (2, .int .i64 (max tries 0)), (3, .pointer (some ⟨r0_0, 0, none⟩)), (7, .int .i64 k)]) (fun _ => (r0_0, .cells r.cells.toArray 89 (0, 0)) :: H) (fun k => (min (max tries 0) 127 + 1 - k).toNat) 0 (by omega) (by repeat (first | exact keep_nil | refine keep_cons rfl ?_)) (by repeat (first | exact Sub.refl _ | apply Sub.drop)) ?_
        intro k hk
        have hlm := limN_in (v := v) hr.2.2 k
        have hsm := satMul_in hlm hr.2.2
        have hlaw := stepL_law hlm hr.2.2
        rw [Int.tdiv_eq_ediv_of_nonneg (by omega), Int.tmod_eq_emod_of_nonneg (by omega)] at hlaw
        refine aw_seq ?_
        refine aw_seq_region ?_
        refine sr_x rfl (wtd_none rfl) rfl (Rd.x (x_move rfl)) ?_
        refine sr_x rfl (wtd_none rfl) rfl (Rd.x (x_move rfl)) ?_
        refine sr_cmp rfl (wtd_none rfl) rfl (Rd.x (x_le rfl rfl)) (fun h15 => ?_) (fun h15 => ?_)
        · refine sr_x rfl (wtd_none rfl) rfl (Rd.x (x_move rfl)) ?_
          refine sr_x rfl (wtd_yes rfl rfl rfl) rfl (Rd.x (x_move rfl)) ?_
          refine sr_cmp rfl (wtd_yes rfl rfl rfl) rfl (Rd.x (x_lt rfl rfl)) (fun h16 => ?_) (fun h16 => ?_)
          · refine sr_x rfl (wtd_none rfl) rfl (Rd.x (x_pick_t rfl rfl rfl)) ?_
            refine sr_nil ?_
            refine aw_keep (keep_cons (t := 1) rfl (keep_cons (t := 2) rfl (keep_cons (t := 3) rfl (keep_cons (t := 7) rfl (keep_cons (t := 15) rfl (keep_cons (t := 16) rfl (keep_cons (t := 17) rfl (keep_cons (t := 18) rfl (keep_cons (t := 19) rfl (keep_cons (t := 20) rfl (keep_cons (t := 21) rfl keep_nil))))))))))) ?_
            refine aw_true rfl ?_
            refine aw_skip ?_
            show AW _ _ _ _ _ _ _
            refine aw_seq ?_
            refine aw_block ?_
            refine aw_seq_region ?_
            refine sr_x rfl (wtd_none rfl) rfl (Rd.x (x_move rfl)) ?_
            refine sr_x rfl (wtd_none rfl) rfl (Rd.x (x_fieldAddr fd89_4 rfl)) ?_
            refine sr_x rfl (wtd_none rfl) rfl (Rd.x (x_load ag3 rfl (cells_ext (by repeat (first | exact List.mem_cons_self | apply List.mem_cons_of_mem | apply List.mem_append_right)) (by repeat (first | exact Ext.all _ | exact Ext.done | apply Ext.take | apply Ext.skip))))) ?_
            refine sr_x rfl (wtd_none rfl) rfl (Rd.x (x_add' rfl rfl (i64w (by omega) (by omega)))) ?_
            refine sr_x rfl (wtd_none rfl) rfl (Rd.x (x_mul' rfl rfl (i64w (by omega) (by omega)))) ?_
            refine sr_x rfl (wtd_none rfl) rfl (Rd.x (x_assign rfl)) ?_
            refine sr_nil ?_
            refine aw_keep (keep_cons (t := 1) rfl (keep_cons (t := 2) rfl (keep_cons (t := 3) rfl (keep_cons (t := 7) rfl (keep_cons (t := 8) rfl (keep_cons (t := 15) rfl (keep_cons (t := 16) rfl (keep_cons (t := 17) rfl (keep_cons (t := 18) rfl (keep_cons (t := 19) rfl (keep_cons (t := 20) rfl (keep_cons (t := 21) rfl (keep_cons (t := 24) rfl (keep_cons (t := 25) rfl (keep_cons (t := 26) rfl (keep_cons (t := 27) rfl (keep_cons (t := 28) rfl keep_nil))))))))))))))))) ?_
            refine aw_seq_region ?_
            refine sr_x rfl (wtd_none rfl) rfl (Rd.x (x_move rfl)) ?_
            refine sr_x rfl (wtd_none rfl) rfl (Rd.x (x_cast (u := .int .i64 (limN r.grow v k * (100 + r.grow) / 100)) (x_quo' rfl rfl (by omega) (i64w (by rw [Int.tdiv_eq_ediv_of_nonneg (by omega)]; omega) (by rw [Int.tdiv_eq_ediv_of_nonneg (by omega)]; omega))) (by rw [Int.tdiv_eq_ediv_of_nonneg (by omega)]))) ?_
            refine sr_x rfl (wtd_none rfl) rfl (Rd.x (x_assign rfl)) ?_
            refine sr_nil ?_
            refine aw_keep (keep_cons (t := 1) rfl (keep_cons (t := 2) rfl (keep_cons (t := 3) rfl (keep_cons (t := 7) rfl (keep_cons (t := 8) rfl (keep_cons (t := 15) rfl (keep_cons (t := 16) rfl (keep_cons (t := 17) rfl (keep_cons (t := 18) rfl (keep_cons (t := 19) rfl (keep_cons (t := 20) rfl (keep_cons (t := 21) rfl (keep_cons (t := 24) rfl (keep_cons (t := 25) rfl (keep_cons (t := 26) rfl (keep_cons (t := 27) rfl (keep_cons (t := 28) rfl (keep_cons (t := 29) rfl (keep_cons (t := 30) rfl keep_nil))))))))))))))))))) ?_
            refine aw_seq ?_
            refine aw_seq_region ?_
            refine sr_x rfl (wtd_none rfl) rfl (Rd.x (x_move rfl)) ?_
            refine sr_x rfl (wtd_none rfl) rfl (Rd.x (x_cast (u := .int .i64 (limN r.grow v k * (100 + r.grow) % 100)) (x_rem rfl rfl (by omega)) (by rw [Int.tmod_eq_emod_of_nonneg (by omega)]))) ?_
            refine sr_cmp rfl (wtd_none rfl) rfl (Rd.x (x_gt rfl rfl)) (fun h17 => ?_) (fun h17 => ?_)
            · refine sr_nil ?_
              refine aw_keep (keep_cons (t := 1) rfl (keep_cons (t := 2) rfl (keep_cons (t := 3) rfl (keep_cons (t := 7) rfl (keep_cons (t := 8) rfl (keep_cons (t := 15) rfl (keep_cons (t := 16) rfl (keep_cons (t := 17) rfl (keep_cons (t := 18) rfl (keep_cons (t := 19) rfl (keep_cons (t := 20) rfl (keep_cons (t := 21) rfl (keep_cons (t := 24) rfl (keep_cons (t := 25) rfl (keep_cons (t := 26) rfl (keep_cons (t := 27) rfl (keep_cons (t := 28) rfl (keep_cons (t := 29) rfl (keep_cons (t := 30) rfl (keep_cons (t := 31) rfl (keep_cons (t := 32) rfl (keep_cons (t := 33) rfl keep_nil)))))))))))))))))))))) ?_
              refine aw_true rfl ?_
              refine aw_region ?_
              refine sr_x rfl (wtd_none rfl) rfl (Rd.x (x_move rfl)) ?_
              refine sr_x rfl (wtd_none rfl) rfl (Rd.x (x_add' rfl rfl (i64w (by omega) (by omega)))) ?_
              refine sr_x rfl (wtd_none rfl) rfl (Rd.x (x_assign rfl)) ?_
              refine sr_nil ?_
              show AW _ _ _ _ _ _ _
              refine aw_seq_region ?_
              refine sr_x rfl (wtd_none rfl) rfl (Rd.x (x_move rfl)) ?_
              refine sr_cmp rfl (wtd_none rfl) rfl (Rd.x (x_gt rfl rfl)) (fun h18 => ?_) (fun h18 => ?_)
              · refine sr_nil ?_
                refine aw_keep (keep_cons (t := 1) rfl (keep_cons (t := 2) rfl (keep_cons (t := 3) rfl (keep_cons (t := 7) rfl (keep_cons (t := 8) rfl (keep_cons (t := 15) rfl (keep_cons (t := 16) rfl (keep_cons (t := 17) rfl (keep_cons (t := 18) rfl (keep_cons (t := 19) rfl (keep_cons (t := 20) rfl (keep_cons (t := 21) rfl (keep_cons (t := 24) rfl (keep_cons (t := 25) rfl (keep_cons (t := 26) rfl (keep_cons (t := 27) rfl (keep_cons (t := 28) rfl (keep_cons (t := 29) rfl (keep_cons (t := 30) rfl (keep_cons (t := 31) rfl (keep_cons (t := 32) rfl (keep_cons (t := 33) rfl (keep_cons (t := 34) rfl (keep_cons (t := 35) rfl (keep_cons (t := 36) rfl (keep_cons (t := 37) rfl keep_nil)))))))))))))))))))))))))) ?_
                refine aw_true rfl ?_
                refine aw_region ?_
                refine sr_x rfl (wtd_none rfl) rfl (Rd.x (x_assign rfl)) ?_
                refine sr_nil ?_
                show AW _ _ _ _ _ _ _
                refine aw_region ?_
                refine sr_x rfl (wtd_none rfl) rfl (Rd.x (x_move rfl)) ?_
                refine sr_x rfl (wtd_none rfl) rfl (Rd.x (x_add' rfl rfl (i64w (by omega) (by omega)))) ?_
                refine sr_x rfl (wtd_none rfl) rfl (Rd.x (x_assign rfl)) ?_
                refine sr_nil ?_
                show ∃ s', _ ∧ _ ∧ _ ∧ _
                exact ⟨k + 1, by omega, by omega, (keep_cons (t := 1) (v := .int .i64 (limN r.grow v (k + 1))) (congrArg (fun x => some (Value.int .i64 x)) (by show _ = stepL r.grow (limN r.grow v k); rw [hlaw]; omega)) (by repeat (first | exact keep_nil | refine keep_cons rfl ?_))), (by repeat (first | exact Sub.refl _ | apply Sub.drop))⟩
              · refine sr_nil ?_
                refine aw_keep (keep_cons (t := 1) rfl (keep_cons (t := 2) rfl (keep_cons (t := 3) rfl (keep_cons (t := 7) rfl (keep_cons (t := 8) rfl (keep_cons (t := 15) rfl (keep_cons (t := 16) rfl (keep_cons (t := 17) rfl (keep_cons (t := 18) rfl (keep_cons (t := 19) rfl (keep_cons (t := 20) rfl (keep_cons (t := 21) rfl (keep_cons (t := 24) rfl (keep_cons (t := 25) rfl (keep_cons (t := 26) rfl (keep_cons (t := 27) rfl (keep_cons (t := 28) rfl (keep_cons (t := 29) rfl (keep_cons (t := 30) rfl (keep_cons (t := 31) rfl (keep_cons (t := 32) rfl (keep_cons (t := 33) rfl (keep_cons (t := 34) rfl (keep_cons (t := 35) rfl (keep_cons (t := 36) rfl (keep_cons (t := 37) rfl keep_nil)))))))))))))))))))))))))) ?_
                refine aw_false rfl ?_
                refine aw_skip ?_
                show AW _ _ _ _ _ _ _
                refine aw_region ?_
                refine sr_x rfl (wtd_none rfl) rfl (Rd.x (x_move rfl)) ?_
                refine sr_x rfl (wtd_none rfl) rfl (Rd.x (x_add' rfl rfl (i64w (by omega) (by omega)))) ?_
                refine sr_x rfl (wtd_none rfl) rfl (Rd.x (x_assign rfl)) ?_
                refine sr_nil ?_
                show ∃ s', _ ∧ _ ∧ _ ∧ _
                exact ⟨k + 1, by omega, by omega, (keep_cons (t := 1) (v := .int .i64 (limN r.grow v (k + 1))) (congrArg (fun x => some (Value.int .i64 x)) (by show _ = stepL r.grow (limN r.grow v k); rw [hlaw]; omega)) (by repeat (first | exact keep_nil | refine keep_cons rfl ?_))), (by repeat (first | exact Sub.refl _ | apply Sub.drop))⟩
            · refine sr_nil ?_
              refine aw_keep (keep_cons (t := 1) rfl (keep_cons (t := 2) rfl (keep_cons (t := 3) rfl (keep_cons (t := 7) rfl (keep_cons (t := 8) rfl (keep_cons (t := 15) rfl (keep_cons (t := 16) rfl (keep_cons (t := 17) rfl (keep_cons (t := 18) rfl (keep_cons (t := 19) rfl (keep_cons (t := 20) rfl (keep_cons (t := 21) rfl (keep_cons (t := 24) rfl (keep_cons (t := 25) rfl (keep_cons (t := 26) rfl (keep_cons (t := 27) rfl (keep_cons (t := 28) rfl (keep_cons (t := 29) rfl (keep_cons (t := 30) rfl (keep_cons (t := 31) rfl (keep_cons (t := 32) rfl (keep_cons (t := 33) rfl keep_nil)))))))))))))))))))))) ?_
              refine aw_false rfl ?_
              refine aw_skip ?_
              show AW _ _ _ _ _ _ _
              refine aw_seq_region ?_
              refine sr_x rfl (wtd_none rfl) rfl (Rd.x (x_move rfl)) ?_
              refine sr_cmp rfl (wtd_none rfl) rfl (Rd.x (x_gt rfl rfl)) (fun h19 => ?_) (fun h19 => ?_)
              · refine sr_nil ?_
                refine aw_keep (keep_cons (t := 1) rfl (keep_cons (t := 2) rfl (keep_cons (t := 3) rfl (keep_cons (t := 7) rfl (keep_cons (t := 8) rfl (keep_cons (t := 15) rfl (keep_cons (t := 16) rfl (keep_cons (t := 17) rfl (keep_cons (t := 18) rfl (keep_cons (t := 19) rfl (keep_cons (t := 20) rfl (keep_cons (t := 21) rfl (keep_cons (t := 24) rfl (keep_cons (t := 25) rfl (keep_cons (t := 26) rfl (keep_cons (t := 27) rfl (keep_cons (t := 28) rfl (keep_cons (t := 29) rfl (keep_cons (t := 30) rfl (keep_cons (t := 31) rfl (keep_cons (t := 32) rfl (keep_cons (t := 33) rfl (keep_cons (t := 36) rfl (keep_cons (t := 37) rfl keep_nil)))))))))))))))))))))))) ?_
                refine aw_true rfl ?_
                refine aw_region ?_
                refine sr_x rfl (wtd_none rfl) rfl (Rd.x (x_assign rfl)) ?_
                refine sr_nil ?_
                show AW _ _ _ _ _ _ _
                refine aw_region ?_
                refine sr_x rfl (wtd_none rfl) rfl (Rd.x (x_move rfl)) ?_
                refine sr_x rfl (wtd_none rfl) rfl (Rd.x (x_add' rfl rfl (i64w (by omega) (by omega)))) ?_
                refine sr_x rfl (wtd_none rfl) rfl (Rd.x (x_assign rfl)) ?_
                refine sr_nil ?_
                show ∃ s', _ ∧ _ ∧ _ ∧ _
                exact ⟨k + 1, by omega, by omega, (keep_cons (t := 1) (v := .int .i64 (limN r.grow v (k + 1))) (congrArg (fun x => some (Value.int .i64 x)) (by show _ = stepL r.grow (limN r.grow v k); rw [hlaw]; omega)) (by repeat (first | exact keep_nil | refine keep_cons rfl ?_))), (by repeat (first | exact Sub.refl _ | apply Sub.drop))⟩
              · refine sr_nil ?_
                refine aw_keep (keep_cons (t := 1) rfl (keep_cons (t := 2) rfl (keep_cons (t := 3) rfl (keep_cons (t := 7) rfl (keep_cons (t := 8) rfl (keep_cons (t := 15) rfl (keep_cons (t := 16) rfl (keep_cons (t := 17) rfl (keep_cons (t := 18) rfl (keep_cons (t := 19) rfl (keep_cons (t := 20) rfl (keep_cons (t := 21) rfl (keep_cons (t := 24) rfl (keep_cons (t := 25) rfl (keep_cons (t := 26) rfl (keep_cons (t := 27) rfl (keep_cons (t := 28) rfl (keep_cons (t := 29) rfl (keep_cons (t := 30) rfl (keep_cons (t := 31) rfl (keep_cons (t := 32) rfl (keep_cons (t := 33) rfl (keep_cons (t := 36) rfl (keep_cons (t := 37) rfl keep_nil)))))))))))))))))))))))) ?_
                refine aw_false rfl ?_
                refine aw_skip ?_
                show AW _ _ _ _ _ _ _
                refine aw_region ?_
                refine sr_x rfl (wtd_none rfl) rfl (Rd.x (x_move rfl)) ?_
                refine sr_x rfl (wtd_none rfl) rfl (Rd.x (x_add' rfl rfl (i64w (by omega) (by omega)))) ?_
                refine sr_x rfl (wtd_none rfl) rfl (Rd.x (x_assign rfl)) ?_
                refine sr_nil ?_
                show ∃ s', _ ∧ _ ∧ _ ∧ _
                exact ⟨k + 1, by omega, by omega, (keep_cons (t := 1) (v := .int .i64 (limN r.grow v (k + 1))) (congrArg (fun x => some (Value.int .i64 x)) (by show _ = stepL r.grow (limN r.grow v k); rw [hlaw]; omega)) (by repeat (first | exact keep_nil | refine keep_cons rfl ?_))), (by repeat (first | exact Sub.refl _ | apply Sub.drop))⟩
          · refine sr_x rfl (wtd_none rfl) rfl (Rd.x (x_pick_t rfl rfl rfl)) ?_
            refine sr_nil ?_
            refine aw_keep (keep_cons (t := 1) rfl (keep_cons (t := 2) rfl (keep_cons (t := 3) rfl (keep_cons (t := 7) rfl (keep_cons (t := 15) rfl (keep_cons (t := 16) rfl (keep_cons (t := 17) rfl (keep_cons (t := 18) rfl (keep_cons (t := 19) rfl (keep_cons (t := 20) rfl (keep_cons (t := 21) rfl keep_nil))))))))))) ?_
            refine aw_false rfl ?_
            refine aw_exit ?_
            show AW _ _ _ _ _ _ _
            refine aw_seq_region ?_
            refine sr_x rfl (wtd_none rfl) rfl (Rd.x (x_move rfl)) ?_
            refine sr_x rfl (wtd_none rfl) rfl (Rd.x (x_assign rfl)) ?_
            refine sr_nil ?_
            refine aw_keep (keep_cons (t := 6) rfl keep_nil) ?_
            refine aw_ret ?_
            show ∃ v H2, ResV _ _ _ _ _ _ v ∧ Sub H2 _ ∧ _
            exact ⟨_, H, resV rfl (.cons rfl .nil), (by repeat (first | exact Sub.refl _ | apply Sub.drop)), ⟨congrArg (Value.int .i64) (limitL_at (by omega)), rfl⟩⟩
        · refine sr_x rfl (wtd_none rfl) rfl (Rd.x (x_move rfl)) ?_
          refine sr_skip rfl (wtd_no rfl rfl rfl rfl) rfl ?_
          refine sr_skip rfl (wtd_no rfl rfl rfl rfl) rfl ?_
          refine sr_x rfl (wtd_none rfl) rfl (Rd.x (x_pick_f rfl rfl rfl)) ?_
          refine sr_nil ?_
          refine aw_keep (keep_cons (t := 1) rfl (keep_cons (t := 2) rfl (keep_cons (t := 3) rfl (keep_cons (t := 7) rfl (keep_cons (t := 15) rfl (keep_cons (t := 16) rfl (keep_cons (t := 17) rfl (keep_cons (t := 18) rfl (keep_cons (t := 19) rfl (keep_cons (t := 20) rfl (keep_cons (t := 21) rfl keep_nil))))))))))) ?_
          refine aw_false rfl ?_
          refine aw_exit ?_
          show AW _ _ _ _ _ _ _
          refine aw_seq_region ?_
          refine sr_x rfl (wtd_none rfl) rfl (Rd.x (x_move rfl)) ?_
          refine sr_x rfl (wtd_none rfl) rfl (Rd.x (x_assign rfl)) ?_
          refine sr_nil ?_
          refine aw_keep (keep_cons (t := 6) rfl keep_nil) ?_
          refine aw_ret ?_
          show ∃ v H2, ResV _ _ _ _ _ _ v ∧ Sub H2 _ ∧ _
          exact ⟨_, H, resV rfl (.cons rfl .nil), (by repeat (first | exact Sub.refl _ | apply Sub.drop)), ⟨congrArg (Value.int .i64) (limitL_at (by omega)), rfl⟩⟩
      · refine sr_nil ?_
        refine aw_keep (keep_cons (t := 1) rfl (keep_cons (t := 2) rfl (keep_cons (t := 3) rfl (keep_cons (t := 6) rfl (keep_cons (t := 14) rfl keep_nil))))) ?_
        refine aw_false rfl ?_
        refine aw_skip ?_
        show AW _ _ _ _ _ _ _
        refine aw_seq ?_
        refine aw_seq_region ?_
        refine sr_x rfl (wtd_none rfl) rfl (Rd.x (x_assign rfl)) ?_
        refine sr_nil ?_
        refine aw_keep (keep_cons (t := 1) rfl (keep_cons (t := 2) rfl (keep_cons (t := 3) rfl (keep_cons (t := 6) rfl (keep_cons (t := 7) rfl keep_nil))))) ?_
        refine aw_block ?_
        refine aw_keep (keep_cons (t := 1) (v := .int .i64 (limN r.grow v 0)) (congrArg (fun x => some (Value.int .i64 x)) (by unfold limN; omega)) (keep_cons (t := 2) (v := .int .i64 (max tries 0)) (congrArg (fun x => some (Value.int .i64 x)) (by omega)) (keep_cons (t := 3) rfl (keep_cons (t := 7) rfl keep_nil)))) ?_
        refine aw_loop (ι := Nat) (fun k => (k : Int) ≤ min (max tries 0) 127 + 1) (fun k => [(1, .int .i64 (limN r.grow v k)), (2, .int .i64 (max tries 0)), (3, .pointer (some ⟨r0_0, 0, none⟩)), (7, .int .i64 k)]) (fun _ => (r0_0, .cells r.cells.toArray 89 (0, 0)) :: H) (fun k => (min (max tries 0) 127 + 1 - k).toNat) 0 (by omega) (by repeat (first | exact keep_nil | refine keep_cons rfl ?_)) (by repeat (first | exact Sub.refl _ | apply Sub.drop)) ?_
        intro k hk
        have hlm := limN_in (v := v) hr.2.2 k
        have hsm := satMul_in hlm hr.2.2
        have hlaw := stepL_law hlm hr.2.2
        rw [Int.tdiv_eq_ediv_of_nonneg (by omega), Int.tmod_eq_emod_of_nonneg (by omega)] at hlaw
        refine aw_seq ?_
        refine aw_seq_region ?_
        refine sr_x rfl (wtd_none rfl) rfl (Rd.x (x_move rfl)) ?_
        refine sr_x rfl (wtd_none rfl) rfl (Rd.x (x_move rfl)) ?_
        refine sr_cmp rfl (wtd_none rfl) rfl (Rd.x (x_le rfl rfl)) (fun h20 => ?_) (fun h20 => ?_)
        · refine sr_x rfl (wtd_none rfl) rfl (Rd.x (x_move rfl)) ?_
          refine sr_x rfl (wtd_yes rfl rfl rfl) rfl (Rd.x (x_move rfl)) ?_
          refine sr_cmp rfl (wtd_yes rfl rfl rfl) rfl (Rd.x (x_lt rfl rfl)) (fun h21 => ?_) (fun h21 => ?_)
          · refine sr_x rfl (wtd_none rfl) rfl (Rd.x (x_pick_t rfl rfl rfl)) ?_
            refine sr_nil ?_
            refine aw_keep (keep_cons (t := 1) rfl (keep_cons (t := 2) rfl (keep_cons (t := 3) rfl (keep_cons (t := 7) rfl (keep_cons (t := 15) rfl (keep_cons (t := 16) rfl (keep_cons (t := 17) rfl (keep_cons (t := 18) rfl (keep_cons (t := 19) rfl (keep_cons (t := 20) rfl (keep_cons (t := 21) rfl keep_nil))))))))))) ?_
            refine aw_true rfl ?_
            refine aw_skip ?_
            show AW _ _ _ _ _ _ _
            refine aw_seq ?_
            refine aw_block ?_
            refine aw_seq_region ?_
            refine sr_x rfl (wtd_none rfl) rfl (Rd.x (x_move rfl)) ?_
            refine sr_x rfl (wtd_none rfl) rfl (Rd.x (x_fieldAddr fd89_4 rfl)) ?_
            refine sr_x rfl (wtd_none rfl) rfl (Rd.x (x_load ag3 rfl (cells_ext (by repeat (first | exact List.mem_cons_self | apply List.mem_cons_of_mem | apply List.mem_append_right)) (by repeat (first | exact Ext.all _ | exact Ext.done | apply Ext.take | apply Ext.skip))))) ?_
            refine sr_x rfl (wtd_none rfl) rfl (Rd.x (x_add' rfl rfl (i64w (by omega) (by omega)))) ?_
            refine sr_x rfl (wtd_none rfl) rfl (Rd.x (x_mul' rfl rfl (i64w (by omega) (by omega)))) ?_
            refine sr_x rfl (wtd_none rfl) rfl (Rd.x (x_assign rfl)) ?_
            refine sr_nil ?_
            refine aw_keep (keep_cons (t := 1) rfl (keep_cons (t := 2) rfl (keep_cons (t := 3) rfl (keep_cons (t := 7) rfl (keep_cons (t := 8) rfl (keep_cons (t := 15) rfl (keep_cons (t := 16) rfl (keep_cons (t := 17) rfl (keep_cons (t := 18) rfl (keep_cons (t := 19) rfl (keep_cons (t := 20) rfl (keep_cons (t := 21) rfl (keep_cons (t := 24) rfl (keep_cons (t := 25) rfl (keep_cons (t := 26) rfl (keep_cons (t := 27) rfl (keep_cons (t := 28) rfl keep_nil))))))))))))))))) ?_
            refine aw_seq_region ?_
            refine sr_x rfl (wtd_none rfl) rfl (Rd.x (x_move rfl)) ?_
            refine sr_x rfl (wtd_none rfl) rfl (Rd.x (x_cast (u := .int .i64 (limN r.grow v k * (100 + r.grow) / 100)) (x_quo' rfl rfl (by omega) (i64w (by rw [Int.tdiv_eq_ediv_of_nonneg (by omega)]; omega) (by rw [Int.tdiv_eq_ediv_of_nonneg (by omega)]; omega))) (by rw [Int.tdiv_eq_ediv_of_nonneg (by omega)]))) ?_
            refine sr_x rfl (wtd_none rfl) rfl (Rd.x (x_assign rfl)) ?_
            refine sr_nil ?_
            refine aw_keep (keep_cons (t := 1) rfl (keep_cons (t := 2) rfl (keep_cons (t := 3) rfl (keep_cons (t := 7) rfl (keep_cons (t := 8) rfl (keep_cons (t := 15) rfl (keep_cons (t := 16) rfl (keep_cons (t := 17) rfl (keep_cons (t := 18) rfl (keep_cons (t := 19) rfl (keep_cons (t := 20) rfl (keep_cons (t := 21) rfl (keep_cons (t := 24) rfl (keep_cons (t := 25) rfl (keep_cons (t := 26) rfl (keep_cons (t := 27) rfl (keep_cons (t := 28) rfl (keep_cons (t := 29) rfl (keep_cons (t := 30) rfl keep_nil))))))))))))))))))) ?_
            refine aw_seq ?_
            refine aw_seq_region ?_
            refine sr_x rfl (wtd_none rfl) rfl (Rd.x (x_move rfl)) ?_
            refine sr_x rfl (wtd_none rfl) rfl (Rd.x (x_cast (u := .int .i64 (limN r.grow v k * (100 + r.grow) % 100)) (x_rem rfl rfl (by omega)) (by rw [Int.tmod_eq_emod_of_nonneg (by omega)]))) ?_
            refine sr_cmp rfl (wtd_none rfl) rfl (Rd.x (x_gt rfl rfl)) (fun h22 => ?_) (fun h22 => ?_)
            · refine sr_nil ?_
              refine aw_keep (keep_cons (t := 1) rfl (keep_cons (t := 2) rfl (keep_cons (t := 3) rfl (keep_cons (t := 7) rfl (keep_cons (t := 8) rfl (keep_cons (t := 15) rfl (keep_cons (t := 16) rfl (keep_cons (t := 17) rfl (keep_cons (t := 18) rfl (keep_cons (t := 19) rfl (keep_cons (t := 20) rfl (keep_cons (t := 21) rfl (keep_cons (t := 24) rfl (keep_cons (t := 25) rfl (keep_cons (t := 26) rfl (keep_cons (t := 27) rfl (keep_cons (t := 28) rfl (keep_cons (t := 29) rfl (keep_cons (t := 30) rfl (keep_cons (t := 31) rfl (keep_cons (t := 32) rfl (keep_cons (t := 33) rfl keep_nil)))))))))))))))))))))) ?_
              refine aw_true rfl ?_
              refine aw_region ?_
              refine sr_x rfl (wtd_none rfl) rfl (Rd.x (x_move rfl)) ?_
              refine sr_x rfl (wtd_none rfl) rfl (Rd.x (x_add' rfl rfl (i64w (by omega) (by omega)))) ?_
              refine sr_x rfl (wtd_none rfl) rfl (Rd.x (x_assign rfl)) ?_
              refine sr_nil ?_
              show AW _ _ _ _ _ _ _
              refine aw_seq_region ?_
              refine sr_x rfl (wtd_none rfl) rfl (Rd.x (x_move rfl)) ?_
              refine sr_cmp rfl (wtd_none rfl) rfl (Rd.x (x_gt rfl rfl)) (fun h23 => ?_) (fun h23 => ?_)
              · refine sr_nil ?_
                refine aw_keep (keep_cons (t := 1) rfl (keep_cons (t := 2) rfl (keep_cons (t := 3) rfl (keep_cons (t := 7) rfl (keep_cons (t := 8) rfl (keep_cons (t := 15) rfl (keep_cons (t := 16) rfl (keep_cons (t := 17) rfl (keep_cons (t := 18) rfl (keep_cons (t := 19) rfl (keep_cons (t := 20) rfl (keep_cons (t := 21) rfl (keep_cons (t := 24) rfl (keep_cons (t := 25) rfl (keep_cons (t := 26) rfl (keep_cons (t := 27) rfl (keep_cons (t := 28) rfl (keep_cons (t := 29) rfl (keep_cons (t := 30) rfl (keep_cons (t := 31) rfl (keep_cons (t := 32) rfl (keep_cons (t := 33) rfl (keep_cons (t := 34) rfl (keep_cons (t := 35) rfl (keep_cons (t := 36) rfl (keep_cons (t := 37) rfl keep_nil)))))))))))))))))))))))))) ?_
                refine aw_true rfl ?_
                refine aw_region ?_
                refine sr_x rfl (wtd_none rfl) rfl (Rd.x (x_assign rfl)) ?_
                refine sr_nil ?_
                show AW _ _ _ _ _ _ _
                refine aw_region ?_
                refine sr_x rfl (wtd_none rfl) rfl (Rd.x (x_move rfl)) ?_
                refine sr_x rfl (wtd_none rfl) rfl (Rd.x (x_add' rfl rfl (i64w (by omega) (by omega)))) ?_
                refine sr_x rfl (wtd_none rfl) rfl (Rd.x (x_assign rfl)) ?_
                refine sr_nil ?_
                show ∃ s', _ ∧ _ ∧ _ ∧ _
                exact ⟨k + 1, by omega, by omega, (keep_cons (t := 1) (v := .int .i64 (limN r.grow v (k + 1))) (congrArg (fun x => some (Value.int .i64 x)) (by show _ = stepL r.grow (limN r.grow v k); rw [hlaw]; omega)) (by repeat (first | exact keep_nil | refine keep_cons rfl ?_))), (by repeat (first | exact Sub.refl _ | apply Sub.drop))⟩
              · refine sr_nil ?_
                refine aw_keep (keep_cons (t := 1) rfl (keep_cons (t := 2) rfl (keep_cons (t := 3) rfl (keep_cons (t := 7) rfl (keep_cons (t := 8) rfl (keep_cons (t := 15) rfl (keep_cons (t := 16) rfl (keep_cons (t := 17) rfl (keep_cons (t := 18) rfl (keep_cons (t := 19) rfl (keep_cons (t := 20) rfl (keep_cons (t := 21) rfl (keep_cons (t := 24) rfl (keep_cons (t := 25) rfl (keep_cons (t := 26) rfl (keep_cons (t := 27) rfl (keep_cons (t := 28) rfl (keep_cons (t := 29) rfl (keep_cons (t := 30) rfl (keep_cons (t := 31) rfl (keep_cons (t := 32) rfl (keep_cons (t := 33) rfl (keep_cons (t := 34) rfl (keep_cons (t := 35) rfl (keep_cons (t := 36) rfl (keep_cons (t := 37) rfl keep_nil)))))))))))))))))))))))))) ?_
                refine aw_false rfl ?_
                refine aw_skip ?_
                show AW _ _ _ _ _ _ _
                refine aw_region ?_
                refine sr_x rfl (wtd_none rfl) rfl (Rd.x (x_move rfl)) ?_
                refine sr_x rfl (wtd_none rfl) rfl (Rd.x (x_add' rfl rfl (i64w (by omega) (by omega)))) ?_
                refine sr_x rfl (wtd_none rfl) rfl (Rd.x (x_assign rfl)) ?_
                refine sr_nil ?_
                show ∃ s', _ ∧ _ ∧ _ ∧ _
                exact ⟨k + 1, by omega, by omega, (keep_cons (t := 1) (v := .int .i64 (limN r.grow v (k + 1))) (congrArg (fun x => some (Value.int .i64 x)) (by show _ = stepL r.grow (limN r.grow v k); rw [hlaw]; omega)) (by repeat (first | exact keep_nil | refine keep_cons rfl ?_))), (by repeat (first | exact Sub.refl _ | apply Sub.drop))⟩
            · refine sr_nil ?_
              refine aw_keep (keep_cons (t := 1) rfl (keep_cons (t := 2) rfl (keep_cons (t := 3) rfl (keep_cons (t := 7) rfl (keep_cons (t := 8) rfl (keep_cons (t := 15) rfl (keep_cons (t := 16) rfl (keep_cons (t := 17) rfl (keep_cons (t := 18) rfl (keep_cons (t := 19) rfl (keep_cons (t := 20) rfl (keep_cons (t := 21) rfl (keep_cons (t := 24) rfl (keep_cons (t := 25) rfl (keep_cons (t := 26) rfl (keep_cons (t := 27) rfl (keep_cons (t := 28) rfl (keep_cons (t := 29) rfl (keep_cons (t := 30) rfl (keep_cons (t := 31) rfl (keep_cons (t := 32) rfl (keep_cons (t := 33) rfl keep_nil)))))))))))))))))))))) ?_
              refine aw_false rfl ?_
              refine aw_skip ?_
              show AW _ _ _ _ _ _ _
              refine aw_seq_region ?_
              refine sr_x rfl (wtd_none rfl) rfl (Rd.x (x_move rfl)) ?_
              refine sr_cmp rfl (wtd_none rfl) rfl (Rd.x (x_gt rfl rfl)) (fun h24 => ?_) (fun h24 => ?_)
              · refine sr_nil ?_
                refine aw_keep (keep_cons (t := 1) rfl (keep_cons (t := 2) rfl (keep_cons (t := 3) rfl (keep_cons (t := 7) rfl (keep_cons (t := 8) rfl (keep_cons (t := 15) rfl (keep_cons (t := 16) rfl (keep_cons (t := 17) rfl (keep_cons (t := 18) rfl (keep_cons (t := 19) rfl (keep_cons (t := 20) rfl (keep_cons (t := 21) rfl (keep_cons (t := 24) rfl (keep_cons (t := 25) rfl (keep_cons (t := 26) rfl (keep_cons (t := 27) rfl (keep_cons (t := 28) rfl (keep_cons (t := 29) rfl (keep_cons (t := 30) rfl (keep_cons (t := 31) rfl (keep_cons (t := 32) rfl (keep_cons (t := 33) rfl (keep_cons (t := 36) rfl (keep_cons (t := 37) rfl keep_nil)))))))))))))))))))))))) ?_
                refine aw_true rfl ?_
                refine aw_region ?_
                refine sr_x rfl (wtd_none rfl) rfl (Rd.x (x_assign rfl)) ?_
                refine sr_nil ?_
                show AW _ _ _ _ _ _ _
                refine aw_region ?_
                refine sr_x rfl (wtd_none rfl) rfl (Rd.x (x_move rfl)) ?_
                refine sr_x rfl (wtd_none rfl) rfl (Rd.x (x_add' rfl rfl (i64w (by omega) (by omega)))) ?_
                refine sr_x rfl (wtd_none rfl) rfl (Rd.x (x_assign rfl)) ?_
                refine sr_nil ?_
                show ∃ s', _ ∧ _ ∧ _ ∧ _
                exact ⟨k + 1, by omega, by omega, (keep_cons (t := 1) (v := .int .i64 (limN r.grow v (k + 1))) (congrArg (fun x => some (Value.int .i64 x)) (by show _ = stepL r.grow (limN r.grow v k); rw [hlaw]; omega)) (by repeat (first | exact keep_nil | refine keep_cons rfl ?_))), (by repeat (first | exact Sub.refl _ | apply Sub.drop))⟩
              · refine sr_nil ?_
                refine aw_keep (keep_cons (t := 1) rfl (keep_cons (t := 2) rfl (keep_cons (t := 3) rfl (keep_cons (t := 7) rfl (keep_cons (t := 8) rfl (keep_cons (t := 15) rfl (keep_cons (t := 16) rfl (keep_cons (t := 17) rfl (keep_cons (t := 18) rfl (keep_cons (t := 19) rfl (keep_cons (t := 20) rfl (keep_cons (t := 21) rfl (keep_cons (t := 24) rfl (keep_cons (t := 25) rfl (keep_cons (t := 26) rfl (keep_cons (t := 27) rfl (keep_cons (t := 28) rfl (keep_cons (t := 29) rfl (keep_cons (t := 30) rfl (keep_cons (t := 31) rfl (keep_cons (t := 32) rfl (keep_cons (t := 33) rfl (keep_cons (t := 36) rfl (keep_cons (t := 37) rfl keep_nil)))))))))))))))))))))))) ?_
                refine aw_false rfl ?_
                refine aw_skip ?_
                show AW _ _ _ _ _ _ _
                refine aw_region ?_
                refine sr_x rfl (wtd_none rfl) rfl (Rd.x (x_move rfl)) ?_
                refine sr_x rfl (wtd_none rfl) rfl (Rd.x (x_add' rfl rfl (i64w (by omega) (by omega)))) ?_
                refine sr_x rfl (wtd_none rfl) rfl (Rd.x (x_assign rfl)) ?_
                refine sr_nil ?_
                show ∃ s', _ ∧ _ ∧ _ ∧ _
                exact ⟨k + 1, by omega, by omega, (keep_cons (t := 1) (v := .int .i64 (limN r.grow v (k + 1))) (congrArg (fun x => some (Value.int .i64 x)) (by show _ = stepL r.grow (limN r.grow v k); rw [hlaw]; omega)) (by repeat (first | exact keep_nil | refine keep_cons rfl ?_))), (by repeat (first | exact Sub.refl _ | apply Sub.drop))⟩
          · refine sr_x rfl (wtd_none rfl) rfl (Rd.x (x_pick_t rfl rfl rfl)) ?_
            refine sr_nil ?_
            refine aw_keep (keep_cons (t := 1) rfl (keep_cons (t := 2) rfl (keep_cons (t := 3) rfl (keep_cons (t := 7) rfl (keep_cons (t := 15) rfl (keep_cons (t := 16) rfl (keep_cons (t := 17) rfl (keep_cons (t := 18) rfl (keep_cons (t := 19) rfl (keep_cons (t := 20) rfl (keep_cons (t := 21) rfl keep_nil))))))))))) ?_
            refine aw_false rfl ?_
            refine aw_exit ?_
            show AW _ _ _ _ _ _ _
            refine aw_seq_region ?_
            refine sr_x rfl (wtd_none rfl) rfl (Rd.x (x_move rfl)) ?_
            refine sr_x rfl (wtd_none rfl) rfl (Rd.x (x_assign rfl)) ?_
            refine sr_nil ?_
            refine aw_keep (keep_cons (t := 6) rfl keep_nil) ?_
            refine aw_ret ?_
            show ∃ v H2, ResV _ _ _ _ _ _ v ∧ Sub H2 _ ∧ _
            exact ⟨_, H, resV rfl (.cons rfl .nil), (by repeat (first | exact Sub.refl _ | apply Sub.drop)), ⟨congrArg (Value.int .i64) (limitL_at (by omega)), rfl⟩⟩
        · refine sr_x rfl (wtd_none rfl) rfl (Rd.x (x_move rfl)) ?_
          refine sr_skip rfl (wtd_no rfl rfl rfl rfl) rfl ?_
          refine sr_skip rfl (wtd_no rfl rfl rfl rfl) rfl ?_
          refine sr_x rfl (wtd_none rfl) rfl (Rd.x (x_pick_f rfl rfl rfl)) ?_
          refine sr_nil ?_
          refine aw_keep (keep_cons (t := 1) rfl (keep_cons (t := 2) rfl (keep_cons (t := 3) rfl (keep_cons (t := 7) rfl (keep_cons (t := 15) rfl (keep_cons (t := 16) rfl (keep_cons (t := 17) rfl (keep_cons (t := 18) rfl (keep_cons (t := 19) rfl (keep_cons (t := 20) rfl (keep_cons (t := 21) rfl keep_nil))))))))))) ?_
          refine aw_false rfl ?_
          refine aw_exit ?_
          show AW _ _ _ _ _ _ _
          refine aw_seq_region ?_
          refine sr_x rfl (wtd_none rfl) rfl (Rd.x (x_move rfl)) ?_
          refine sr_x rfl (wtd_none rfl) rfl (Rd.x (x_assign rfl)) ?_
          refine sr_nil ?_
          refine aw_keep (keep_cons (t := 6) rfl keep_nil) ?_
          refine aw_ret ?_
          show ∃ v H2, ResV _ _ _ _ _ _ v ∧ Sub H2 _ ∧ _
          exact ⟨_, H, resV rfl (.cons rfl .nil), (by repeat (first | exact Sub.refl _ | apply Sub.drop)), ⟨congrArg (Value.int .i64) (limitL_at (by omega)), rfl⟩⟩
  · refine sr_nil ?_
    refine aw_keep (keep_cons (t := 1) rfl (keep_cons (t := 2) rfl (keep_cons (t := 3) rfl (keep_cons (t := 6) rfl (keep_cons (t := 10) rfl keep_nil))))) ?_
    refine aw_false rfl ?_
    refine aw_skip ?_
    show AW _ _ _ _ _ _ _
    refine aw_seq ?_
    refine aw_seq_region ?_
    refine sr_x rfl (wtd_none rfl) rfl (Rd.x (x_move rfl)) ?_
    refine sr_cmp rfl (wtd_none rfl) rfl (Rd.x (x_gt rfl rfl)) (fun h25 => ?_) (fun h25 => ?_)
    · refine sr_nil ?_
      refine aw_keep (keep_cons (t := 1) rfl (keep_cons (t := 2) rfl (keep_cons (t := 3) rfl (keep_cons (t := 6) rfl (keep_cons (t := 12) rfl keep_nil))))) ?_
      refine aw_true rfl ?_
      refine aw_region ?_
      refine sr_x rfl (wtd_none rfl) rfl (Rd.x (x_assign rfl)) ?_
      refine sr_nil ?_
      show AW _ _ _ _ _ _ _
      refine aw_seq ?_
      refine aw_seq_region ?_
      refine sr_x rfl (wtd_none rfl) rfl (Rd.x (x_move rfl)) ?_
      refine sr_cmp rfl (wtd_none rfl) rfl (Rd.x (x_lt rfl rfl)) (fun h26 => ?_) (fun h26 => ?_)
      · refine sr_nil ?_
        refine aw_keep (keep_cons (t := 1) rfl (keep_cons (t := 2) rfl (keep_cons (t := 3) rfl (keep_cons (t := 6) rfl (keep_cons (t := 14) rfl keep_nil))))) ?_
        refine aw_true rfl ?_
        refine aw_region ?_
        refine sr_x rfl (wtd_none rfl) rfl (Rd.x (x_assign rfl)) ?_
        refine sr_nil ?_
        show AW _ _ _ _ _ _ _
        refine aw_seq ?_
        refine aw_seq_region ?_
        refine sr_x rfl (wtd_none rfl) rfl (Rd.x (x_assign rfl)) ?_
        refine sr_nil ?_
        refine aw_keep (keep_cons (t := 1) rfl (keep_cons (t := 2) rfl (keep_cons (t := 3) rfl (keep_cons (t := 6) rfl (keep_cons (t := 7) rfl keep_nil))))) ?_
        refine aw_block ?_
        refine aw_keep (keep_cons (t := 1) (v := .int .i64 (limN r.grow v 0)) (congrArg (fun x => some (Value.int .i64 x)) (by unfold limN; omega)) (keep_cons (t := 2) (v := .int .i64 (max tries 0)) (congrArg (fun x => some (Value.int .i64 x)) (by omega)) (keep_cons (t := 3) rfl (keep_cons (t := 7) rfl keep_nil)))) ?_
        refine aw_loop (ι := Nat) (fun k => (k : Int) ≤ min (max tries 0) 127 + 1) (fun k => [(1, .int .i64 (limN r.grow v k)), (2, .int .i64 (max tries 0)), (3, .pointer (some ⟨r0_0, 0, none⟩)), (7, .int .i64 k)]) (fun _ => (r0_0, .cells r.cells.toArray 89 (0, 0)) :: H) (fun k => (min (max tries 0) 127 + 1 - k).toNat) 0 (by omega) (by repeat (first | exact keep_nil | refine keep_cons rfl ?_)) (by repeat (first | exact Sub.refl _ | apply Sub.drop)) ?_
        intro k hk
        have hlm := limN_in (v := v) hr.2.2 k
        have hsm := satMul_in hlm hr.2.2
        have hlaw := stepL_law hlm hr.2.2
        rw [Int.tdiv_eq_ediv_of_nonneg (by omega), Int.tmod_eq_emod_of_nonneg (by omega)] at hlaw
        refine aw_seq ?_
        refine aw_seq_region ?_
        refine sr_x rfl (wtd_none rfl) rfl (Rd.x (x_move rfl)) ?_
        refine sr_x rfl (wtd_none rfl) rfl (Rd.x (x_move rfl)) ?_
        refine sr_cmp rfl (wtd_none rfl) rfl (Rd.x (x_le rfl rfl)) (fun h27 => ?_) (fun h27 => ?_)
        · refine sr_x rfl (wtd_none rfl) rfl (Rd.x (x_move rfl)) ?_
          refine sr_x rfl (wtd_yes rfl rfl rfl) rfl (Rd.x (x_move rfl)) ?_
          refine sr_cmp rfl (wtd_yes rfl rfl rfl) rfl (Rd.x (x_lt rfl rfl)) (fun h28 => ?_) (fun h28 => ?_)
          · refine sr_x rfl (wtd_none rfl) rfl (Rd.x (x_pick_t rfl rfl rfl)) ?_
            refine sr_nil ?_
            refine aw_keep (keep_cons (t := 1) rfl (keep_cons (t := 2) rfl (keep_cons (t := 3) rfl (keep_cons (t := 7) rfl (keep_cons (t := 15) rfl (keep_cons (t := 16) rfl (keep_cons (t := 17) rfl (keep_cons (t := 18) rfl (keep_cons (t := 19) rfl (keep_cons (t := 20) rfl (keep_cons (t := 21) rfl keep_nil))))))))))) ?_
            refine aw_true rfl ?_
            refine aw_skip ?_
            show AW _ _ _ _ _ _ _
            refine aw_seq ?_
            refine aw_block ?_
            refine aw_seq_region ?_
            refine sr_x rfl (wtd_none rfl) rfl (Rd.x (x_move rfl)) ?_
            refine sr_x rfl (wtd_none rfl) rfl (Rd.x (x_fieldAddr fd89_4 rfl)) ?_
            refine sr_x rfl (wtd_none rfl) rfl (Rd.x (x_load ag3 rfl (cells_ext (by repeat (first | exact List.mem_cons_self | apply List.mem_cons_of_mem | apply List.mem_append_right)) (by repeat (first | exact Ext.all _ | exact Ext.done | apply Ext.take | apply Ext.skip))))) ?_
            refine sr_x rfl (wtd_none rfl) rfl (Rd.x (x_add' rfl rfl (i64w (by omega) (by omega)))) ?_
            refine sr_x rfl (wtd_none rfl) rfl (Rd.x (x_mul' rfl rfl (i64w (by omega) (by omega)))) ?_
            refine sr_x rfl (wtd_none rfl) rfl (Rd.x (x_assign rfl)) ?_
            refine sr_nil ?_
            refine aw_keep (keep_cons (t := 1) rfl (keep_cons (t := 2) rfl (keep_cons (t := 3) rfl (keep_cons (t := 7) rfl (keep_cons (t := 8) rfl (keep_cons (t := 15) rfl (keep_cons (t := 16) rfl (keep_cons (t := 17) rfl (keep_cons (t := 18) rfl (keep_cons (t := 19) rfl (keep_cons (t := 20) rfl (keep_cons (t := 21) rfl (keep_cons (t := 24) rfl (keep_cons (t := 25) rfl (keep_cons (t := 26) rfl (keep_cons (t := 27) rfl (keep_cons (t := 28) rfl keep_nil))))))))))))))))) ?_
            refine aw_seq_region ?_
            refine sr_x rfl (wtd_none rfl) rfl (Rd.x (x_move rfl)) ?_
            refine sr_x rfl (wtd_none rfl) rfl (Rd.x (x_cast (u := .int .i64 (limN r.grow v k * (100 + r.grow) / 100)) (x_quo' rfl rfl (by omega) (i64w (by rw [Int.tdiv_eq_ediv_of_nonneg (by omega)]; omega) (by rw [Int.tdiv_eq_ediv_of_nonneg (by omega)]; omega))) (by rw [Int.tdiv_eq_ediv_of_nonneg (by omega)]))) ?_
            refine sr_x rfl (wtd_none rfl) rfl (Rd.x (x_assign rfl)) ?_
            refine sr_nil ?_
            refine aw_keep (keep_cons (t := 1) rfl (keep_cons (t := 2) rfl (keep_cons (t := 3) rfl (keep_cons (t := 7) rfl (keep_cons (t := 8) rfl (keep_cons (t := 15) rfl (keep_cons (t := 16) rfl (keep_cons (t := 17) rfl (keep_cons (t := 18) rfl (keep_cons (t := 19) rfl (keep_cons (t := 20) rfl (keep_cons (t := 21) rfl (keep_cons (t := 24) rfl (keep_cons (t := 25) rfl (keep_cons (t := 26) rfl (keep_cons (t := 27) rfl (keep_cons (t := 28) rfl (keep_cons (t := 29) rfl (keep_cons (t := 30) rfl keep_nil))))))))))))))))))) ?_
            refine aw_seq ?_
            refine aw_seq_region ?_
            refine sr_x rfl (wtd_none rfl) rfl (Rd.x (x_move rfl)) ?_
            refine sr_x rfl (wtd_none rfl) rfl (Rd.x (x_cast (u := .int .i64 (limN r.grow v k * (100 + r.grow) % 100)) (x_rem rfl rfl (by omega)) (by rw [Int.tmod_eq_emod_of_nonneg (by omega)]))) ?_
            refine sr_cmp rfl (wtd_none rfl) rfl (Rd.x (x_gt rfl rfl)) (fun h29 => ?_) (fun h29 => ?_)
            · refine sr_nil ?_
              refine aw_keep (keep_cons (t := 1) rfl (keep_cons (t := 2) rfl (keep_cons (t := 3) rfl (keep_cons (t := 7) rfl (keep_cons (t := 8) rfl (keep_cons (t := 15) rfl (keep_cons (t := 16) rfl (keep_cons (t := 17) rfl (keep_cons (t := 18) rfl (keep_cons (t := 19) rfl (keep_cons (t := 20) rfl (keep_cons (t := 21) rfl (keep_cons (t := 24) rfl (keep_cons (t := 25) rfl (keep_cons (t := 26) rfl (keep_cons (t := 27) rfl (keep_cons (t := 28) rfl (keep_cons (t := 29) rfl (keep_cons (t := 30) rfl (keep_cons (t := 31) rfl (keep_cons (t := 32) rfl (keep_cons (t := 33) rfl keep_nil)))))))))))))))))))))) ?_
              refine aw_true rfl ?_
              refine aw_region ?_
              refine sr_x rfl (wtd_none rfl) rfl (Rd.x (x_move rfl)) ?_
              refine sr_x rfl (wtd_none rfl) rfl (Rd.x (x_add' rfl rfl (i64w (by omega) (by omega)))) ?_
              refine sr_x rfl (wtd_none rfl) rfl (Rd.x (x_assign rfl)) ?_
              refine sr_nil ?_
              show AW _ _ _ _ _ _ _
              refine aw_seq_region ?_
              refine sr_x rfl (wtd_none rfl) rfl (Rd.x (x_move rfl)) ?_
              refine sr_cmp rfl (wtd_none rfl) rfl (Rd.x (x_gt rfl rfl)) (fun h30 => ?_) (fun h30 => ?_)
              · refine sr_nil ?_
                refine aw_keep (keep_cons (t := 1) rfl (keep_cons (t := 2) rfl (keep_cons (t := 3) rfl (keep_cons (t := 7) rfl (keep_cons (t := 8) rfl (keep_cons (t := 15) rfl (keep_cons (t := 16) rfl (keep_cons (t := 17) rfl (keep_cons (t := 18) rfl (keep_cons (t := 19) rfl (keep_cons (t := 20) rfl (keep_cons (t := 21) rfl (keep_cons (t := 24) rfl (keep_cons (t := 25) rfl (keep_cons (t := 26) rfl (keep_cons (t := 27) rfl (keep_cons (t := 28) rfl (keep_cons (t := 29) rfl (keep_cons (t := 30) rfl (keep_cons (t := 31) rfl (keep_cons (t := 32) rfl (keep_cons (t := 33) rfl (keep_cons (t := 34) rfl (keep_cons (t := 35) rfl (keep_cons (t := 36) rfl (keep_cons (t := 37) rfl keep_nil)))))))))))))))))))))))))) ?_
                refine aw_true rfl ?_
                refine aw_region ?_
                refine sr_x rfl (wtd_none rfl) rfl (Rd.x (x_assign rfl)) ?_
                refine sr_nil ?_
                show AW _ _ _ _ _ _ _
                refine aw_region ?_
                refine sr_x rfl (wtd_none rfl) rfl (Rd.x (x_move rfl)) ?_
                refine sr_x rfl (wtd_none rfl) rfl (Rd.x (x_add' rfl rfl (i64w (by omega) (by omega)))) ?_
                refine sr_x rfl (wtd_none rfl) rfl (Rd.x (x_assign rfl)) ?_
                refine sr_nil ?_
                show ∃ s', _ ∧ _ ∧ _ ∧ _
                exact ⟨k + 1, by omega, by omega, (keep_cons (t := 1) (v := .int .i64 (limN r.grow v (k + 1))) (congrArg (fun x => some (Value.int .i64 x)) (by show _ = stepL r.grow (limN r.grow v k); rw [hlaw]; omega)) (by repeat (first | exact keep_nil | refine keep_cons rfl ?_))), (by repeat (first | exact Sub.refl _ | apply Sub.drop))⟩
              · refine sr_nil ?_
                refine aw_keep (keep_cons (t := 1) rfl (keep_cons (t := 2) rfl (keep_cons (t := 3) rfl (keep_cons (t := 7) rfl (keep_cons (t := 8) rfl (keep_cons (t := 15) rfl (keep_cons (t := 16) rfl (keep_cons (t := 17) rfl (keep_cons (t := 18) rfl (keep_cons (t := 19) rfl (keep_cons (t := 20) rfl (keep_cons (t := 21) rfl (keep_cons (t := 24) rfl (keep_cons (t := 25) rfl (keep_cons (t := 26) rfl (keep_cons (t := 27) rfl (keep_cons (t := 28) rfl (keep_cons (t := 29) rfl (keep_cons (t := 30) rfl (keep_cons (t := 31) rfl (keep_cons (t := 32) rfl (keep_cons (t := 33) rfl (keep_cons (t := 34) rfl (keep_cons (t := 35) rfl (keep_cons (t := 36) rfl (keep_cons (t := 37) rfl keep_nil)))))))))))))))))))))))))) ?_
                refine aw_false rfl ?_
                refine aw_skip ?_
                show AW _ _ _ _ _ _ _
                refine aw_region ?_
                refine sr_x rfl (wtd_none rfl) rfl (Rd.x (x_move rfl)) ?_
                refine sr_x rfl (wtd_none rfl) rfl (Rd.x (x_add' rfl rfl (i64w (by omega) (by omega)))) ?_
                refine sr_x rfl (wtd_none rfl) rfl (Rd.x (x_assign rfl)) ?_
                refine sr_nil ?_
                show ∃ s', _ ∧ _ ∧ _ ∧ _
                exact ⟨k + 1, by omega, by omega, (keep_cons (t := 1) (v := .int .i64 (limN r.grow v (k + 1))) (congrArg (fun x => some (Value.int .i64 x)) (by show _ = stepL r.grow (limN r.grow v k); rw [hlaw]; omega)) (by repeat (first | exact keep_nil | refine keep_cons rfl ?_))), (by repeat (first | exact Sub.refl _ | apply Sub.drop))⟩
            · refine sr_nil ?_
              refine aw_keep (keep_cons (t := 1) rfl (keep_cons (t := 2) rfl (keep_cons (t := 3) rfl (keep_cons (t := 7) rfl (keep_cons (t := 8) rfl (keep_cons (t := 15) rfl (keep_cons (t := 16) rfl (keep_cons (t := 17) rfl (keep_cons (t := 18) rfl (keep_cons (t := 19) rfl (keep_cons (t := 20) rfl (keep_cons (t := 21) rfl (keep_cons (t := 24) rfl (keep_cons (t := 25) rfl (keep_cons (t := 26) rfl (keep_cons (t := 27) rfl (keep_cons (t := 28) rfl (keep_cons (t := 29) rfl (keep_cons (t := 30) rfl (keep_cons (t := 31) rfl (keep_cons (t := 32) rfl (keep_cons (t := 33) rfl keep_nil)))))))))))))))))))))) ?_
              refine aw_false rfl ?_
              refine aw_skip ?_
              show AW _ _ _ _ _ _ _
              refine aw_seq_region ?_
              refine sr_x rfl (wtd_none rfl) rfl (Rd.x (x_move rfl)) ?_
              refine sr_cmp rfl (wtd_none rfl) rfl (Rd.x (x_gt rfl rfl)) (fun h31 => ?_) (fun h31 => ?_)
              · refine sr_nil ?_
                refine aw_keep (keep_cons (t := 1) rfl (keep_cons (t := 2) rfl (keep_cons (t := 3) rfl (keep_cons (t := 7) rfl (keep_cons (t := 8) rfl (keep_cons (t := 15) rfl (keep_cons (t := 16) rfl (keep_cons (t := 17) rfl (keep_cons (t := 18) rfl (keep_cons (t := 19) rfl (keep_cons (t := 20) rfl (keep_cons (t := 21) rfl (keep_cons (t := 24) rfl (keep_cons (t := 25) rfl (keep_cons (t := 26) rfl (keep_cons (t := 27) rfl (keep_cons (t := 28) rfl (keep_cons (t := 29) rfl (keep_cons (t := 30) rfl (keep_cons (t := 31) rfl (keep_cons (t := 32) rfl (keep_cons (t := 33) rfl (keep_cons (t := 36) rfl (keep_cons (t := 37) rfl keep_nil)))))))))))))))))))))))) ?_
                refine aw_true rfl ?_
                refine aw_region ?_
                refine sr_x rfl (wtd_none rfl) rfl (Rd.x (x_assign rfl)) ?_
                refine sr_nil ?_
                show AW _ _ _ _ _ _ _
                refine aw_region ?_
                refine sr_x rfl (wtd_none rfl) rfl (Rd.x (x_move rfl)) ?_
                refine sr_x rfl (wtd_none rfl) rfl (Rd.x (x_add' rfl rfl (i64w (by omega) (by omega)))) ?_
                refine sr_x rfl (wtd_none rfl) rfl (Rd.x (x_assign rfl)) ?_
                refine sr_nil ?_
                show ∃ s', _ ∧ _ ∧ _ ∧ _
                exact ⟨k + 1, by omega, by omega, (keep_cons (t := 1) (v := .int .i64 (limN r.grow v (k + 1))) (congrArg (fun x => some (Value.int .i64 x)) (by show _ = stepL r.grow (limN r.grow v k); rw [hlaw]; omega)) (by repeat (first | exact keep_nil | refine keep_cons rfl ?_))), (by repeat (first | exact Sub.refl _ | apply Sub.drop))⟩
              · refine sr_nil ?_
                refine aw_keep (keep_cons (t := 1) rfl (keep_cons (t := 2) rfl (keep_cons (t := 3) rfl (keep_cons (t := 7) rfl (keep_cons (t := 8) rfl (keep_cons (t := 15) rfl (keep_cons (t := 16) rfl (keep_cons (t := 17) rfl (keep_cons (t := 18) rfl (keep_cons (t := 19) rfl (keep_cons (t := 20) rfl (keep_cons (t := 21) rfl (keep_cons (t := 24) rfl (keep_cons (t := 25) rfl (keep_cons (t := 26) rfl (keep_cons (t := 27) rfl (keep_cons (t := 28) rfl (keep_cons (t := 29) rfl (keep_cons (t := 30) rfl (keep_cons (t := 31) rfl (keep_cons (t := 32) rfl (keep_cons (t := 33) rfl (keep_cons (t := 36) rfl (keep_cons (t := 37) rfl keep_nil)))))))))))))))))))))))) ?_
                refine aw_false rfl ?_
                refine aw_skip ?_
                show AW _ _ _ _ _ _ _
                refine aw_region ?_
                refine sr_x rfl (wtd_none rfl) rfl (Rd.x (x_move rfl)) ?_
                refine sr_x rfl (wtd_none rfl) rfl (Rd.x (x_add' rfl rfl (i64w (by omega) (by omega)))) ?_
                refine sr_x rfl (wtd_none rfl) rfl (Rd.x (x_assign rfl)) ?_
                refine sr_nil ?_
                show ∃ s', _ ∧ _ ∧ _ ∧ _
                exact ⟨k + 1, by omega, by omega, (keep_cons (t := 1) (v := .int .i64 (limN r.grow v (k + 1))) (congrArg (fun x => some (Value.int .i64 x)) (by show _ = stepL r.grow (limN r.grow v k); rw [hlaw]; omega)) (by repeat (first | exact keep_nil | refine keep_cons rfl ?_))), (by repeat (first | exact Sub.refl _ | apply Sub.drop))⟩
          · refine sr_x rfl (wtd_none rfl) rfl (Rd.x (x_pick_t rfl rfl rfl)) ?_
            refine sr_nil ?_
            refine aw_keep (keep_cons (t := 1) rfl (keep_cons (t := 2) rfl (keep_cons (t := 3) rfl (keep_cons (t := 7) rfl (keep_cons (t := 15) rfl (keep_cons (t := 16) rfl (keep_cons (t := 17) rfl (keep_cons (t := 18) rfl (keep_cons (t := 19) rfl (keep_cons (t := 20) rfl (keep_cons (t := 21) rfl keep_nil))))))))))) ?_
            refine aw_false rfl ?_
            refine aw_exit ?_
            show AW _ _ _ _ _ _ _
            refine aw_seq_region ?_
            refine sr_x rfl (wtd_none rfl) rfl (Rd.x (x_move rfl)) ?_
            refine sr_x rfl (wtd_none rfl) rfl (Rd.x (x_assign rfl)) ?_
            refine sr_nil ?_
            refine aw_keep (keep_cons (t := 6) rfl keep_nil) ?_
            refine aw_ret ?_
            show ∃ v H2, ResV _ _ _ _ _ _ v ∧ Sub H2 _ ∧ _
            exact ⟨_, H, resV rfl (.cons rfl .nil), (by repeat (first | exact Sub.refl _ | apply Sub.drop)), ⟨congrArg (Value.int .i64) (limitL_at (by omega)), rfl⟩⟩
        · refine sr_x rfl (wtd_none rfl) rfl (Rd.x (x_move rfl)) ?_
          refine sr_skip rfl (wtd_no rfl rfl rfl rfl) rfl ?_
          refine sr_skip rfl (wtd_no rfl rfl rfl rfl) rfl ?_
          refine sr_x rfl (wtd_none rfl) rfl (Rd.x (x_pick_f rfl rfl rfl)) ?_
          refine sr_nil ?_
          refine aw_keep (keep_cons (t := 1) rfl (keep_cons (t := 2) rfl (keep_cons (t := 3) rfl (keep_cons (t := 7) rfl (keep_cons (t := 15) rfl (keep_cons (t := 16) rfl (keep_cons (t := 17) rfl (keep_cons (t := 18) rfl (keep_cons (t := 19) rfl (keep_cons (t := 20) rfl (keep_cons (t := 21) rfl keep_nil))))))))))) ?_
          refine aw_false rfl ?_
          refine aw_exit ?_
          show AW _ _ _ _ _ _ _
          refine aw_seq_region ?_
          refine sr_x rfl (wtd_none rfl) rfl (Rd.x (x_move rfl)) ?_
          refine sr_x rfl (wtd_none rfl) rfl (Rd.x (x_assign rfl)) ?_
          refine sr_nil ?_
          refine aw_keep (keep_cons (t := 6) rfl keep_nil) ?_
          refine aw_ret ?_
          show ∃ v H2, ResV _ _ _ _ _ _ v ∧ Sub H2 _ ∧ _
          exact ⟨_, H, resV rfl (.cons rfl .nil), (by repeat (first | exact Sub.refl _ | apply Sub.drop)), ⟨congrArg (Value.int .i64) (limitL_at (by omega)), rfl⟩⟩
      · refine sr_nil ?_
        refine aw_keep (keep_cons (t := 1) rfl (keep_cons (t := 2) rfl (keep_cons (t := 3) rfl (keep_cons (t := 6) rfl (keep_cons (t := 14) rfl keep_nil))))) ?_
        refine aw_false rfl ?_
        refine aw_skip ?_
        show AW _ _ _ _ _ _ _
        refine aw_seq ?_
        refine aw_seq_region ?_
        refine sr_x rfl (wtd_none rfl) rfl (Rd.x (x_assign rfl)) ?_
        refine sr_nil ?_
        refine aw_keep (keep_cons (t := 1) rfl (keep_cons (t := 2) rfl (keep_cons (t := 3) rfl (keep_cons (t := 6) rfl (keep_cons (t := 7) rfl keep_nil))))) ?_
        refine aw_block ?_
        refine aw_keep (keep_cons (t := 1) (v := .int .i64 (limN r.grow v 0)) (congrArg (fun x => some (Value.int .i64 x)) (by unfold limN; omega)) (keep_cons (t := 2) (v := .int .i64 (max tries 0)) (congrArg (fun x => some (Value.int .i64 x)) (by omega)) (keep_cons (t := 3) rfl (keep_cons (t := 7) rfl keep_nil)))) ?_
        refine aw_loop (ι := Nat) (fun k => (k : Int) ≤ min (max tries 0) 127 + 1) (fun k => [(1, .int .i64 (limN r.grow v k)), (2, .int .i64 (max tries 0)), (3, .pointer (some ⟨r0_0, 0, none⟩)), (7, .int .i64 k)]) (fun _ => (r0_0, .cells r.cells.toArray 89 (0, 0)) :: H) (fun k => (min (max tries 0) 127 + 1 - k).toNat) 0 (by omega) (by repeat (first | exact keep_nil | refine keep_cons rfl ?_)) (by repeat (first | exact Sub.refl _ | apply Sub.drop)) ?_
        intro k hk
        have hlm := limN_in (v := v) hr.2.2 k
        have hsm := satMul_in hlm hr.2.2
        have hlaw := stepL_law hlm hr.2.2
        rw [Int.tdiv_eq_ediv_of_nonneg (by omega), Int.tmod_eq_emod_of_nonneg (by omega)] at hlaw
        refine aw_seq ?_
        refine aw_seq_region ?_
        refine sr_x rfl (wtd_none rfl) rfl (Rd.x (x_move rfl)) ?_
        refine sr_x rfl (wtd_none rfl) rfl (Rd.x (x_move rfl)) ?_
        refine sr_cmp rfl (wtd_none rfl) rfl (Rd.x (x_le rfl rfl)) (fun h32 => ?_) (fun h32 => ?_)
        · refine sr_x rfl (wtd_none rfl) rfl (Rd.x (x_move rfl)) ?_
          refine sr_x rfl (wtd_yes rfl rfl rfl) rfl (Rd.x (x_move rfl)) ?_
          refine sr_cmp rfl (wtd_yes rfl rfl rfl) rfl (Rd.x (x_lt rfl rfl)) (fun h33 => ?_) (fun h33 => ?_)
          · refine sr_x rfl (wtd_none rfl) rfl (Rd.x (x_pick_t rfl rfl rfl)) ?_
            refine sr_nil ?_
            refine aw_keep (keep_cons (t := 1) rfl (keep_cons (t := 2) rfl (keep_cons (t := 3) rfl (keep_cons (t := 7) rfl (keep_cons (t := 15) rfl (keep_cons (t := 16) rfl (keep_cons (t := 17) rfl (keep_cons (t := 18) rfl (keep_cons (t := 19) rfl (keep_cons (t := 20) rfl (keep_cons (t := 21) rfl keep_nil))))))))))) ?_
            refine aw_true rfl ?_
            refine aw_skip ?_
            show AW _ _ _ _ _ _ _
            refine aw_seq ?_
            refine aw_block ?_
            refine aw_seq_region ?_
            refine sr_x rfl (wtd_none rfl) rfl (Rd.x (x_move rfl)) ?_
            refine sr_x rfl (wtd_none rfl) rfl (Rd.x (x_fieldAddr fd89_4 rfl)) ?_
            refine sr_x rfl (wtd_none rfl) rfl (Rd.x (x_load ag3 rfl (cells_ext (by repeat (first | exact List.mem_cons_self | apply List.mem_cons_of_mem | apply List.mem_append_right)) (by repeat (first | exact Ext.all _ | exact Ext.done | apply Ext.take | apply Ext.skip))))) ?_
            refine sr_x rfl (wtd_none rfl) rfl (Rd.x (x_add' rfl rfl (i64w (by omega) (by omega)))) ?_
            refine sr_x rfl (wtd_none rfl) rfl (Rd.x (x_mul' rfl rfl (i64w (by omega) (by omega)))) ?_
            refine sr_x rfl (wtd_none rfl) rfl (Rd.x (x_assign rfl)) ?_
            refine sr_nil ?_
            refine aw_keep (keep_cons (t := 1) rfl (keep_cons (t := 2) rfl (keep_cons (t := 3) rfl (keep_cons (t := 7) rfl (keep_cons (t := 8) rfl (keep_cons (t := 15) rfl (keep_cons (t := 16) rfl (keep_cons (t := 17) rfl (keep_cons (t := 18) rfl (keep_cons (t := 19) rfl (keep_cons (t := 20) rfl (keep_cons (t := 21) rfl (keep_cons (t := 24) rfl (keep_cons (t := 25) rfl (keep_cons (t := 26) rfl (keep_cons (t := 27) rfl (keep_cons (t := 28) rfl keep_nil))))))))))))))))) ?_
            refine aw_seq_region ?_
            refine sr_x rfl (wtd_none rfl) rfl (Rd.x (x_move rfl)) ?_
            refine sr_x rfl (wtd_none rfl) rfl (Rd.x (x_cast (u := .int .i64 (limN r.grow v k * (100 + r.grow) / 100)) (x_quo' rfl rfl (by omega) (i64w (by rw [Int.tdiv_eq_ediv_of_nonneg (by omega)]; omega) (by rw [Int.tdiv_eq_ediv_of_nonneg (by omega)]; omega))) (by rw [Int.tdiv_eq_ediv_of_nonneg (by omega)]))) ?_
            refine sr_x rfl (wtd_none rfl) rfl (Rd.x (x_assign rfl)) ?_
            refine sr_nil ?_
            refine aw_keep (keep_cons (t := 1) rfl (keep_cons (t := 2) rfl (keep_cons (t := 3) rfl (keep_cons (t := 7) rfl (keep_cons (t := 8) rfl (keep_cons (t := 15) rfl (keep_cons (t := 16) rfl (keep_cons (t := 17) rfl (keep_cons (t := 18) rfl (keep_cons (t := 19) rfl (keep_cons (t := 20) rfl (keep_cons (t := 21) rfl (keep_cons (t := 24) rfl (keep_cons (t := 25) rfl (keep_cons (t := 26) rfl (keep_cons (t := 27) rfl (keep_cons (t := 28) rfl (keep_cons (t := 29) rfl (keep_cons (t := 30) rfl keep_nil))))))))))))))))))) ?_
            refine aw_seq ?_
            refine aw_seq_region ?_
            refine sr_x rfl (wtd_none rfl) rfl (Rd.x (x_move rfl)) ?_
            refine sr_x rfl (wtd_none rfl) rfl (Rd.x (x_cast (u := .int .i64 (limN r.grow v k * (100 + r.grow) % 100)) (x_rem rfl rfl (by omega)) (by rw [Int.tmod_eq_emod_of_nonneg (by omega)]))) ?_
            refine sr_cmp rfl (wtd_none rfl) rfl (Rd.x (x_gt rfl rfl)) (fun h34 => ?_) (fun h34 => ?_)
            · refine sr_nil ?_
              refine aw_keep (keep_cons (t := 1) rfl (keep_cons (t := 2) rfl (keep_cons (t := 3) rfl (keep_cons (t := 7) rfl (keep_cons (t := 8) rfl (keep_cons (t := 15) rfl (keep_cons (t := 16) rfl (keep_cons (t := 17) rfl (keep_cons (t := 18) rfl (keep_cons (t := 19) rfl (keep_cons (t := 20) rfl (keep_cons (t := 21) rfl (keep_cons (t := 24) rfl (keep_cons (t := 25) rfl (keep_cons (t := 26) rfl (keep_cons (t := 27) rfl (keep_cons (t := 28) rfl (keep_cons (t := 29) rfl (keep_cons (t := 30) rfl (keep_cons (t := 31) rfl (keep_cons (t := 32) rfl (keep_cons (t := 33) rfl keep_nil)))))))))))))))))))))) ?_
              refine aw_true rfl ?_
              refine aw_region ?_
              refine sr_x rfl (wtd_none rfl) rfl (Rd.x (x_move rfl)) ?_
              refine sr_x rfl (wtd_none rfl) rfl (Rd.x (x_add' rfl rfl (i64w (by omega) (by omega)))) ?_
              refine sr_x rfl (wtd_none rfl) rfl (Rd.x (x_assign rfl)) ?_
              refine sr_nil ?_
              show AW _ _ _ _ _ _ _
              refine aw_seq_region ?_
              refine sr_x rfl (wtd_none rfl) rfl (Rd.x (x_move rfl)) ?_
              refine sr_cmp rfl (wtd_none rfl) rfl (Rd.x (x_gt rfl rfl)) (fun h35 => ?_) (fun h35 => ?_)
              · refine sr_nil ?_
                refine aw_keep (keep_cons (t := 1) rfl (keep_cons (t := 2) rfl (keep_cons (t := 3) rfl (keep_cons (t := 7) rfl (keep_cons (t := 8) rfl (keep_cons (t := 15) rfl (keep_cons (t := 16) rfl (keep_cons (t := 17) rfl (keep_cons (t := 18) rfl (keep_cons (t := 19) rfl (keep_cons (t := 20) rfl (keep_cons (t := 21) rfl (keep_cons (t := 24) rfl (keep_cons (t := 25) rfl (keep_cons (t := 26) rfl (keep_cons (t := 27) rfl (keep_cons (t := 28) rfl (keep_cons (t := 29) rfl (keep_cons (t := 30) rfl (keep_cons (t := 31) rfl (keep_cons (t := 32) rfl (keep_cons (t := 33) rfl (keep_cons (t := 34) rfl (keep_cons (t := 35) rfl (keep_cons (t := 36) rfl (keep_cons (t := 37) rfl keep_nil)))))))))))))))))))))))))) ?_
                refine aw_true rfl ?_
                refine aw_region ?_
                refine sr_x rfl (wtd_none rfl) rfl (Rd.x (x_assign rfl)) ?_
                refine sr_nil ?_
                show AW _ _ _ _ _ _ _
                refine aw_region ?_
                refine sr_x rfl (wtd_none rfl) rfl (Rd.x (x_move rfl)) ?_
                refine sr_x rfl (wtd_none rfl) rfl (Rd.x (x_add' rfl rfl (i64w (by omega) (by omega)))) ?_
                refine sr_x rfl (wtd_none rfl) rfl (Rd.x (x_assign rfl)) ?_
                refine sr_nil ?_
                show ∃ s', _ ∧ _ ∧ _ ∧ _
                exact ⟨k + 1, by omega, by omega, (keep_cons (t := 1) (v := .int .i64 (limN r.grow v (k + 1))) (congrArg (fun x => some (Value.int .i64 x)) (by show _ = stepL r.grow (limN r.grow v k); rw [hlaw]; omega)) (by repeat (first | exact keep_nil | refine keep_cons rfl ?_))), (by repeat (first | exact Sub.refl _ | apply Sub.drop))⟩
              · refine sr_nil ?_
                refine aw_keep (keep_cons (t := 1) rfl (keep_cons (t := 2) rfl (keep_cons (t := 3) rfl (keep_cons (t := 7) rfl (keep_cons (t := 8) rfl (keep_cons (t := 15) rfl (keep_cons (t := 16) rfl (keep_cons (t := 17) rfl (keep_cons (t := 18) rfl (keep_cons (t := 19) rfl (keep_cons (t := 20) rfl (keep_cons (t := 21) rfl (keep_cons (t := 24) rfl (keep_cons (t := 25) rfl (keep_cons (t := 26) rfl (keep_cons (t := 27) rfl (keep_cons (t := 28) rfl (keep_cons (t := 29) rfl (keep_cons (t := 30) rfl (keep_cons (t := 31) rfl (keep_cons (t := 32) rfl (keep_cons (t := 33) rfl (keep_cons (t := 34) rfl (keep_cons (t := 35) rfl (keep_cons (t := 36) rfl (keep_cons (t := 37) rfl keep_nil)))))))))))))))))))))))))) ?_
                refine aw_false rfl ?_
                refine aw_skip ?_
                show AW _ _ _ _ _ _ _
                refine aw_region ?_
                refine sr_x rfl (wtd_none rfl) rfl (Rd.x (x_move rfl)) ?_
                refine sr_x rfl (wtd_none rfl) rfl (Rd.x (x_add' rfl rfl (i64w (by omega) (by omega)))) ?_
                refine sr_x rfl (wtd_none rfl) rfl (Rd.x (x_assign rfl)) ?_
                refine sr_nil ?_
                show ∃ s', _ ∧ _ ∧ _ ∧ _
                exact ⟨k + 1, by omega, by omega, (keep_cons (t := 1) (v := .int .i64 (limN r.grow v (k + 1))) (congrArg (fun x => some (Value.int .i64 x)) (by show _ = stepL r.grow (limN r.grow v k); rw [hlaw]; omega)) (by repeat (first | exact keep_nil | refine keep_cons rfl ?_))), (by repeat (first | exact Sub.refl _ | apply Sub.drop))⟩
            · refine sr_nil ?_
              refine aw_keep (keep_cons (t := 1) rfl (keep_cons (t := 2) rfl (keep_cons (t := 3) rfl (keep_cons (t := 7) rfl (keep_cons (t := 8) rfl (keep_cons (t := 15) rfl (keep_cons (t := 16) rfl (keep_cons (t := 17) rfl (keep_cons (t := 18) rfl (keep_cons (t := 19) rfl (keep_cons (t := 20) rfl (keep_cons (t := 21) rfl (keep_cons (t := 24) rfl (keep_cons (t := 25) rfl (keep_cons (t := 26) rfl (keep_cons (t := 27) rfl (keep_cons (t := 28) rfl (keep_cons (t := 29) rfl (keep_cons (t := 30) rfl (keep_cons (t := 31) rfl (keep_cons (t := 32) rfl (keep_cons (t := 33) rfl keep_nil)))))))))))))))))))))) ?_
              refine aw_false rfl ?_
              refine aw_skip ?_
              show AW _ _ _ _ _ _ _
              refine aw_seq_region ?_
              refine sr_x rfl (wtd_none rfl) rfl (Rd.x (x_move rfl)) ?_
              refine sr_cmp rfl (wtd_none rfl) rfl (Rd.x (x_gt rfl rfl)) (fun h36 => ?_) (fun h36 => ?_)
              · refine sr_nil ?_
                refine aw_keep (keep_cons (t := 1) rfl (keep_cons (t := 2) rfl (keep_cons (t := 3) rfl (keep_cons (t := 7) rfl (keep_cons (t := 8) rfl (keep_cons (t := 15) rfl (keep_cons (t := 16) rfl (keep_cons (t := 17) rfl (keep_cons (t := 18) rfl (keep_cons (t := 19) rfl (keep_cons (t := 20) rfl (keep_cons (t := 21) rfl (keep_cons (t := 24) rfl (keep_cons (t := 25) rfl (keep_cons (t := 26) rfl (keep_cons (t := 27) rfl (keep_cons (t := 28) rfl (keep_cons (t := 29) rfl (keep_cons (t := 30) rfl (keep_cons (t := 31) rfl (keep_cons (t := 32) rfl (keep_cons (t := 33) rfl (keep_cons (t := 36) rfl (keep_cons (t := 37) rfl keep_nil)))))))))))))))))))))))) ?_
                refine aw_true rfl ?_
                refine aw_region ?_
                refine sr_x rfl (wtd_none rfl) rfl (Rd.x (x_assign rfl)) ?_
                refine sr_nil ?_
                show AW _ _ _ _ _ _ _
                refine aw_region ?_
                refine sr_x rfl (wtd_none rfl) rfl (Rd.x (x_move rfl)) ?_
                refine sr_x rfl (wtd_none rfl) rfl (Rd.x (x_add' rfl rfl (i64w (by omega) (by omega)))) ?_
                refine sr_x rfl (wtd_none rfl) rfl (Rd.x (x_assign rfl)) ?_
                refine sr_nil ?_
                show ∃ s', _ ∧ _ ∧ _ ∧ _
                exact ⟨k + 1, by omega, by omega, (keep_cons (t := 1) (v := .int .i64 (limN r.grow v (k + 1))) (congrArg (fun x => some (Value.int .i64 x)) (by show _ = stepL r.grow (limN r.grow v k); rw [hlaw]; omega)) (by repeat (first | exact keep_nil | refine keep_cons rfl ?_))), (by repeat (first | exact Sub.refl _ | apply Sub.drop))⟩
              · refine sr_nil ?_
                refine aw_keep (keep_cons (t := 1) rfl (keep_cons (t := 2) rfl (keep_cons (t := 3) rfl (keep_cons (t := 7) rfl (keep_cons (t := 8) rfl (keep_cons (t := 15) rfl (keep_cons (t := 16) rfl (keep_cons (t := 17) rfl (keep_cons (t := 18) rfl (keep_cons (t := 19) rfl (keep_cons (t := 20) rfl (keep_cons (t := 21) rfl (keep_cons (t := 24) rfl (keep_cons (t := 25) rfl (keep_cons (t := 26) rfl (keep_cons (t := 27) rfl (keep_cons (t := 28) rfl (keep_cons (t := 29) rfl (keep_cons (t := 30) rfl (keep_cons (t := 31) rfl (keep_cons (t := 32) rfl (keep_cons (t := 33) rfl (keep_cons (t := 36) rfl (keep_cons (t := 37) rfl keep_nil)))))))))))))))))))))))) ?_
                refine aw_false rfl ?_
                refine aw_skip ?_
                show AW _ _ _ _ _ _ _
                refine aw_region ?_
                refine sr_x rfl (wtd_none rfl) rfl (Rd.x (x_move rfl)) ?_
                refine sr_x rfl (wtd_none rfl) rfl (Rd.x (x_add' rfl rfl (i64w (by omega) (by omega)))) ?_
                refine sr_x rfl (wtd_none rfl) rfl (Rd.x (x_assign rfl)) ?_
                refine sr_nil ?_
                show ∃ s', _ ∧ _ ∧ _ ∧ _
                exact ⟨k + 1, by omega, by omega, (keep_cons (t := 1) (v := .int .i64 (limN r.grow v (k + 1))) (congrArg (fun x => some (Value.int .i64 x)) (by show _ = stepL r.grow (limN r.grow v k); rw [hlaw]; omega)) (by repeat (first | exact keep_nil | refine keep_cons rfl ?_))), (by repeat (first | exact Sub.refl _ | apply Sub.drop))⟩
          · refine sr_x rfl (wtd_none rfl) rfl (Rd.x (x_pick_t rfl rfl rfl)) ?_
            refine sr_nil ?_
            refine aw_keep (keep_cons (t := 1) rfl (keep_cons (t := 2) rfl (keep_cons (t := 3) rfl (keep_cons (t := 7) rfl (keep_cons (t := 15) rfl (keep_cons (t := 16) rfl (keep_cons (t := 17) rfl (keep_cons (t := 18) rfl (keep_cons (t := 19) rfl (keep_cons (t := 20) rfl (keep_cons (t := 21) rfl keep_nil))))))))))) ?_
            refine aw_false rfl ?_
            refine aw_exit ?_
            show AW _ _ _ _ _ _ _
            refine aw_seq_region ?_
            refine sr_x rfl (wtd_none rfl) rfl (Rd.x (x_move rfl)) ?_
            refine sr_x rfl (wtd_none rfl) rfl (Rd.x (x_assign rfl)) ?_
            refine sr_nil ?_
            refine aw_keep (keep_cons (t := 6) rfl keep_nil) ?_
            refine aw_ret ?_
            show ∃ v H2, ResV _ _ _ _ _ _ v ∧ Sub H2 _ ∧ _
            exact ⟨_, H, resV rfl (.cons rfl .nil), (by repeat (first | exact Sub.refl _ | apply Sub.drop)), ⟨congrArg (Value.int .i64) (limitL_at (by omega)), rfl⟩⟩
        · refine sr_x rfl (wtd_none rfl) rfl (Rd.x (x_move rfl)) ?_
          refine sr_skip rfl (wtd_no rfl rfl rfl rfl) rfl ?_
          refine sr_skip rfl (wtd_no rfl rfl rfl rfl) rfl ?_
          refine sr_x rfl (wtd_none rfl) rfl (Rd.x (x_pick_f rfl rfl rfl)) ?_
          refine sr_nil ?_
          refine aw_keep (keep_cons (t := 1) rfl (keep_cons (t := 2) rfl (keep_cons (t := 3) rfl (keep_cons (t := 7) rfl (keep_cons (t := 15) rfl (keep_cons (t := 16) rfl (keep_cons (t := 17) rfl (keep_cons (t := 18) rfl (keep_cons (t := 19) rfl (keep_cons (t := 20) rfl (keep_cons (t := 21) rfl keep_nil))))))))))) ?_
          refine aw_false rfl ?_
          refine aw_exit ?_
          show AW _ _ _ _ _ _ _
          refine aw_seq_region ?_
          refine sr_x rfl (wtd_none rfl) rfl (Rd.x (x_move rfl)) ?_
          refine sr_x rfl (wtd_none rfl) rfl (Rd.x (x_assign rfl)) ?_
          refine sr_nil ?_
          refine aw_keep (keep_cons (t := 6) rfl keep_nil) ?_
          refine aw_ret ?_
          show ∃ v H2, ResV _ _ _ _ _ _ v ∧ Sub H2 _ ∧ _
          exact ⟨_, H, resV rfl (.cons rfl .nil), (by repeat (first | exact Sub.refl _ | apply Sub.drop)), ⟨congrArg (Value.int .i64) (limitL_at (by omega)), rfl⟩⟩
    · refine sr_nil ?_
      refine aw_keep (keep_cons (t := 1) rfl (keep_cons (t := 2) rfl (keep_cons (t := 3) rfl (keep_cons (t := 6) rfl (keep_cons (t := 12) rfl keep_nil))))) ?_
      refine aw_false rfl ?_
      refine aw_skip ?_
      show AW _ _ _ _ _ _ _
      refine aw_seq ?_
      refine aw_seq_region ?_
      refine sr_x rfl (wtd_none rfl) rfl (Rd.x (x_move rfl)) ?_
      refine sr_cmp rfl (wtd_none rfl) rfl (Rd.x (x_lt rfl rfl)) (fun h37 => ?_) (fun h37 => ?_)
      · refine sr_nil ?_
        refine aw_keep (keep_cons (t := 1) rfl (keep_cons (t := 2) rfl (keep_cons (t := 3) rfl (keep_cons (t := 6) rfl (keep_cons (t := 14) rfl keep_nil))))) ?_
        refine aw_true rfl ?_
        refine aw_region ?_
        refine sr_x rfl (wtd_none rfl) rfl (Rd.x (x_assign rfl)) ?_
        refine sr_nil ?_
        show AW _ _ _ _ _ _ _
        refine aw_seq ?_
        refine aw_seq_region ?_
        refine sr_x rfl (wtd_none rfl) rfl (Rd.x (x_assign rfl)) ?_
        refine sr_nil ?_
        refine aw_keep (keep_cons (t := 1) rfl (keep_cons (t := 2) rfl (keep_cons (t := 3) rfl (keep_cons (t := 6) rfl (keep_cons (t := 7) rfl keep_nil))))) ?_
        refine aw_block ?_
        refine aw_keep (keep_cons (t := 1) (v := .int .i64 (limN r.grow v 0)) (congrArg (fun x => some (Value.int .i64 x)) (by unfold limN; omega)) (keep_cons (t := 2) (v := .int .i64 (max tries 0)) (congrArg (fun x => some (Value.int .i64 x)) (by omega)) (keep_cons (t := 3) rfl (keep_cons (t := 7) rfl keep_nil)))) ?_
        refine aw_loop (ι := Nat) (fun k => (k : Int) ≤ min (max tries 0) 127 + 1) (fun k => [(1, .int .i64 (limN r.grow v k)), (2, .int .i64 (max tries 0)), (3, .pointer (some ⟨r0_0, 0, none⟩)), (7, .int .i64 k)]) (fun _ => (r0_0, .cells r.cells.toArray 89 (0, 0)) :: H) (fun k => (min (max tries 0) 127 + 1 - k).toNat) 0 (by omega) (by repeat (first | exact keep_nil | refine keep_cons rfl ?_)) (by repeat (first | exact Sub.refl _ | apply Sub.drop)) ?_
        intro k hk
        have hlm := limN_in (v := v) hr.2.2 k
        have hsm := satMul_in hlm hr.2.2
        have hlaw := stepL_law hlm hr.2.2
        rw [Int.tdiv_eq_ediv_of_nonneg (by omega), Int.tmod_eq_emod_of_nonneg (by omega)] at hlaw
        refine aw_seq ?_
        refine aw_seq_region ?_
        refine sr_x rfl (wtd_none rfl) rfl (Rd.x (x_move rfl)) ?_
        refine sr_x rfl (wtd_none rfl) rfl (Rd.x (x_move rfl)) ?_
        refine sr_cmp rfl (wtd_none rfl) rfl (Rd.x (x_le rfl rfl)) (fun h38 => ?_) (fun h38 => ?_)
        · refine sr_x rfl (wtd_none rfl) rfl (Rd.x (x_move rfl)) ?_
          refine sr_x rfl (wtd_yes rfl rfl rfl) rfl (Rd.x (x_move rfl)) ?_
          refine sr_cmp rfl (wtd_yes rfl rfl rfl) rfl (Rd.x (x_lt rfl rfl)) (fun h39 => ?_) (fun h39 => ?_)
          · refine sr_x rfl (wtd_none rfl) rfl (Rd.x (x_pick_t rfl rfl rfl)) ?_
            refine sr_nil ?_
            refine aw_keep (keep_cons (t := 1) rfl (keep_cons (t := 2) rfl (keep_cons (t := 3) rfl (keep_cons (t := 7) rfl (keep_cons (t := 15) rfl (keep_cons (t := 16) rfl (keep_cons (t := 17) rfl (keep_cons (t := 18) rfl (keep_cons (t := 19) rfl (keep_cons (t := 20) rfl (keep_cons (t := 21) rfl keep_nil))))))))))) ?_
            refine aw_true rfl ?_
            refine aw_skip ?_
            show AW _ _ _ _ _ _ _
            refine aw_seq ?_
            refine aw_block ?_
            refine aw_seq_region ?_
            refine sr_x rfl (wtd_none rfl) rfl (Rd.x (x_move rfl)) ?_
            refine sr_x rfl (wtd_none rfl) rfl (Rd.x (x_fieldAddr fd89_4 rfl)) ?_
            refine sr_x rfl (wtd_none rfl) rfl (Rd.x (x_load ag3 rfl (cells_ext (by repeat (first | exact List.mem_cons_self | apply List.mem_cons_of_mem | apply List.mem_append_right)) (by repeat (first | exact Ext.all _ | exact Ext.done | apply Ext.take | apply Ext.skip))))) ?_
            refine sr_x rfl (wtd_none rfl) rfl (Rd.x (x_add' rfl rfl (i64w (by omega) (by omega)))) ?_
            refine sr_x rfl (wtd_none rfl) rfl (Rd.x (x_mul' rfl rfl (i64w (by omega) (by omega)))) ?_
            refine sr_x rfl (wtd_none rfl) rfl (Rd.x (x_assign rfl)) ?_
            refine sr_nil ?_
            refine aw_keep (keep_cons (t := 1) rfl (keep_cons (t := 2) rfl (keep_cons (t := 3) rfl (keep_cons (t := 7) rfl (keep_cons (t := 8) rfl (keep_cons (t := 15) rfl (keep_cons (t := 16) rfl (keep_cons (t := 17) rfl (keep_cons (t := 18) rfl (keep_cons (t := 19) rfl (keep_cons (t := 20) rfl (keep_cons (t := 21) rfl (keep_cons (t := 24) rfl (keep_cons (t := 25) rfl (keep_cons (t := 26) rfl (keep_cons (t := 27) rfl (keep_cons (t := 28) rfl keep_nil))))))))))))))))) ?_
            refine aw_seq_region ?_
            refine sr_x rfl (wtd_none rfl) rfl (Rd.x (x_move rfl)) ?_
            refine sr_x rfl (wtd_none rfl) rfl (Rd.x (x_cast (u := .int .i64 (limN r.grow v k * (100 + r.grow) / 100)) (x_quo' rfl rfl (by omega) (i64w (by rw [Int.tdiv_eq_ediv_of_nonneg (by omega)]; omega) (by rw [Int.tdiv_eq_ediv_of_nonneg (by omega)]; omega))) (by rw [Int.tdiv_eq_ediv_of_nonneg (by omega)]))) ?_
            refine sr_x rfl (wtd_none rfl) rfl (Rd.x (x_assign rfl)) ?_
            refine sr_nil ?_
            refine aw_keep (keep_cons (t := 1) rfl (keep_cons (t := 2) rfl (keep_cons (t := 3) rfl (keep_cons (t := 7) rfl (keep_cons (t := 8) rfl (keep_cons (t := 15) rfl (keep_cons (t := 16) rfl (keep_cons (t := 17) rfl (keep_cons (t := 18) rfl (keep_cons (t := 19) rfl (keep_cons (t := 20) rfl (keep_cons (t := 21) rfl (keep_cons (t := 24) rfl (keep_cons (t := 25) rfl (keep_cons (t := 26) rfl (keep_cons (t := 27) rfl (keep_cons (t := 28) rfl (keep_cons (t := 29) rfl (keep_cons (t := 30) rfl keep_nil))))))))))))))))))) ?_
            refine aw_seq ?_
            refine aw_seq_region ?_
            refine sr_x rfl (wtd_none rfl) rfl (Rd.x (x_move rfl)) ?_
            refine sr_x rfl (wtd_none rfl) rfl (Rd.x (x_cast (u := .int .i64 (limN r.grow v k * (100 + r.grow) % 100)) (x_rem rfl rfl (by omega)) (by rw [Int.tmod_eq_emod_of_nonneg (by omega)]))) ?_
            refine sr_cmp rfl (wtd_none rfl) rfl (Rd.x (x_gt rfl rfl)) (fun h40 => ?_) (fun h40 => ?_)
            · refine sr_nil ?_
              refine aw_keep (keep_cons (t := 1) rfl (keep_cons (t := 2) rfl (keep_cons (t := 3) rfl (keep_cons (t := 7) rfl (keep_cons (t := 8) rfl (keep_cons (t := 15) rfl (keep_cons (t := 16) rfl (keep_cons (t := 17) rfl (keep_cons (t := 18) rfl (keep_cons (t := 19) rfl (keep_cons (t := 20) rfl (keep_cons (t := 21) rfl (keep_cons (t := 24) rfl (keep_cons (t := 25) rfl (keep_cons (t := 26) rfl (keep_cons (t := 27) rfl (keep_cons (t := 28) rfl (keep_cons (t := 29) rfl (keep_cons (t := 30) rfl (keep_cons (t := 31) rfl (keep_cons (t := 32) rfl (keep_cons (t := 33) rfl keep_nil)))))))))))))))))))))) ?_
              refine aw_true rfl ?_
              refine aw_region ?_
              refine sr_x rfl (wtd_none rfl) rfl (Rd.x (x_move rfl)) ?_
              refine sr_x rfl (wtd_none rfl) rfl (Rd.x (x_add' rfl rfl (i64w (by omega) (by omega)))) ?_
              refine sr_x rfl (wtd_none rfl) rfl (Rd.x (x_assign rfl)) ?_
              refine sr_nil ?_
              show AW _ _ _ _ _ _ _
              refine aw_seq_region ?_
              refine sr_x rfl (wtd_none rfl) rfl (Rd.x (x_move rfl)) ?_
              refine sr_cmp rfl (wtd_none rfl) rfl (Rd.x (x_gt rfl rfl)) (fun h41 => ?_) (fun h41 => ?_)
              · refine sr_nil ?_
                refine aw_keep (keep_cons (t := 1) rfl (keep_cons (t := 2) rfl (keep_cons (t := 3) rfl (keep_cons (t := 7) rfl (keep_cons (t := 8) rfl (keep_cons (t := 15) rfl (keep_cons (t := 16) rfl (keep_cons (t := 17) rfl (keep_cons (t := 18) rfl (keep_cons (t := 19) rfl (keep_cons (t := 20) rfl (keep_cons (t := 21) rfl (keep_cons (t := 24) rfl (keep_cons (t := 25) rfl (keep_cons (t := 26) rfl (keep_cons (t := 27) rfl (keep_cons (t := 28) rfl (keep_cons (t := 29) rfl (keep_cons (t := 30) rfl (keep_cons (t := 31) rfl (keep_cons (t := 32) rfl (keep_cons (t := 33) rfl (keep_cons (t := 34) rfl (keep_cons (t := 35) rfl (keep_cons (t := 36) rfl (keep_cons (t := 37) rfl keep_nil)))))))))))))))))))))))))) ?_
                refine aw_true rfl ?_
                refine aw_region ?_
                refine sr_x rfl (wtd_none rfl) rfl (Rd.x (x_assign rfl)) ?_
                refine sr_nil ?_
                show AW _ _ _ _ _ _ _
                refine aw_region ?_
                refine sr_x rfl (wtd_none rfl) rfl (Rd.x (x_move rfl)) ?_
                refine sr_x rfl (wtd_none rfl) rfl (Rd.x (x_add' rfl rfl (i64w (by omega) (by omega)))) ?_
                refine sr_x rfl (wtd_none rfl) rfl (Rd.x (x_assign rfl)) ?_
                refine sr_nil ?_
                show ∃ s', _ ∧ _ ∧ _ ∧ _
                exact ⟨k + 1, by omega, by omega, (keep_cons (t := 1) (v := .int .i64 (limN r.grow v (k + 1))) (congrArg (fun x => some (Value.int .i64 x)) (by show _ = stepL r.grow (limN r.grow v k); rw [hlaw]; omega)) (by repeat (first | exact keep_nil | refine keep_cons rfl ?_))), (by repeat (first | exact Sub.refl _ | apply Sub.drop))⟩
              · refine sr_nil ?_
                refine aw_keep (keep_cons (t := 1) rfl (keep_cons (t := 2) rfl (keep_cons (t := 3) rfl (keep_cons (t := 7) rfl (keep_cons (t := 8) rfl (keep_cons (t := 15) rfl (keep_cons (t := 16) rfl (keep_cons (t := 17) rfl (keep_cons (t := 18) rfl (keep_cons (t := 19) rfl (keep_cons (t := 20) rfl (keep_cons (t := 21) rfl (keep_cons (t := 24) rfl (keep_cons (t := 25) rfl (keep_cons (t := 26) rfl (keep_cons (t := 27) rfl (keep_cons (t := 28) rfl (keep_cons (t := 29) rfl (keep_cons (t := 30) rfl (keep_cons (t := 31) rfl (keep_cons (t := 32) rfl (keep_cons (t := 33) rfl (keep_cons (t := 34) rfl (keep_cons (t := 35) rfl (keep_cons (t := 36) rfl (keep_cons (t := 37) rfl keep_nil)))))))))))))))))))))))))) ?_
                refine aw_false rfl ?_
                refine aw_skip ?_
                show AW _ _ _ _ _ _ _
                refine aw_region ?_
                refine sr_x rfl (wtd_none rfl) rfl (Rd.x (x_move rfl)) ?_
                refine sr_x rfl (wtd_none rfl) rfl (Rd.x (x_add' rfl rfl (i64w (by omega) (by omega)))) ?_
                refine sr_x rfl (wtd_none rfl) rfl (Rd.x (x_assign rfl)) ?_
                refine sr_nil ?_
                show ∃ s', _ ∧ _ ∧ _ ∧ _
                exact ⟨k + 1, by omega, by omega, (keep_cons (t := 1) (v := .int .i64 (limN r.grow v (k + 1))) (congrArg (fun x => some (Value.int .i64 x)) (by show _ = stepL r.grow (limN r.grow v k); rw [hlaw]; omega)) (by repeat (first | exact keep_nil | refine keep_cons rfl ?_))), (by repeat (first | exact Sub.refl _ | apply Sub.drop))⟩
            · refine sr_nil ?_
              refine aw_keep (keep_cons (t := 1) rfl (keep_cons (t := 2) rfl (keep_cons (t := 3) rfl (keep_cons (t := 7) rfl (keep_cons (t := 8) rfl (keep_cons (t := 15) rfl (keep_cons (t := 16) rfl (keep_cons (t := 17) rfl (keep_cons (t := 18) rfl (keep_cons (t := 19) rfl (keep_cons (t := 20) rfl (keep_cons (t := 21) rfl (keep_cons (t := 24) rfl (keep_cons (t := 25) rfl (keep_cons (t := 26) rfl (keep_cons (t := 27) rfl (keep_cons (t := 28) rfl (keep_cons (t := 29) rfl (keep_cons (t := 30) rfl (keep_cons (t := 31) rfl (keep_cons (t := 32) rfl (keep_cons (t := 33) rfl keep_nil)))))))))))))))))))))) ?_
              refine aw_false rfl ?_
              refine aw_skip ?_
              show AW _ _ _ _ _ _ _
              refine aw_seq_region ?_
              refine sr_x rfl (wtd_none rfl) rfl (Rd.x (x_move rfl)) ?_
              refine sr_cmp rfl (wtd_none rfl) rfl (Rd.x (x_gt rfl rfl)) (fun h42 => ?_) (fun h42 => ?_)
              · refine sr_nil ?_
                refine aw_keep (keep_cons (t := 1) rfl (keep_cons (t := 2) rfl (keep_cons (t := 3) rfl (keep_cons (t := 7) rfl (keep_cons (t := 8) rfl (keep_cons (t := 15) rfl (keep_cons (t := 16) rfl (keep_cons (t := 17) rfl (keep_cons (t := 18) rfl (keep_cons (t := 19) rfl (keep_cons (t := 20) rfl (keep_cons (t := 21) rfl (keep_cons (t := 24) rfl (keep_cons (t := 25) rfl (keep_cons (t := 26) rfl (keep_cons (t := 27) rfl (keep_cons (t := 28) rfl (keep_cons (t := 29) rfl (keep_cons (t := 30) rfl (keep_cons (t := 31) rfl (keep_cons (t := 32) rfl (keep_cons (t := 33) rfl (keep_cons (t := 36) rfl (keep_cons (t := 37) rfl keep_nil)))))))))))))))))))))))) ?_
                refine aw_true rfl ?_
                refine aw_region ?_
                refine sr_x rfl (wtd_none rfl) rfl (Rd.x (x_assign rfl)) ?_
                refine sr_nil ?_
                show AW _ _ _ _ _ _ _
                refine aw_region ?_
                refine sr_x rfl (wtd_none rfl) rfl (Rd.x (x_move rfl)) ?_
                refine sr_x rfl (wtd_none rfl) rfl (Rd.x (x_add' rfl rfl (i64w (by omega) (by omega)))) ?_
                refine sr_x rfl (wtd_none rfl) rfl (Rd.x (x_assign rfl)) ?_
                refine sr_nil ?_
                show ∃ s', _ ∧ _ ∧ _ ∧ _
                exact ⟨k + 1, by omega, by omega, (keep_cons (t := 1) (v := .int .i64 (limN r.grow v (k + 1))) (congrArg (fun x => some (Value.int .i64 x)) (by show _ = stepL r.grow (limN r.grow v k); rw [hlaw]; omega)) (by repeat (first | exact keep_nil | refine keep_cons rfl ?_))), (by repeat (first | exact Sub.refl _ | apply Sub.drop))⟩
              · refine sr_nil ?_
                refine aw_keep (keep_cons (t := 1) rfl (keep_cons (t := 2) rfl (keep_cons (t := 3) rfl (keep_cons (t := 7) rfl (keep_cons (t := 8) rfl (keep_cons (t := 15) rfl (keep_cons (t := 16) rfl (keep_cons (t := 17) rfl (keep_cons (t := 18) rfl (keep_cons (t := 19) rfl (keep_cons (t := 20) rfl (keep_cons (t := 21) rfl (keep_cons (t := 24) rfl (keep_cons (t := 25) rfl (keep_cons (t := 26) rfl (keep_cons (t := 27) rfl (keep_cons (t := 28) rfl (keep_cons (t := 29) rfl (keep_cons (t := 30) rfl (keep_cons (t := 31) rfl (keep_cons (t := 32) rfl (keep_cons (t := 33) rfl (keep_cons (t := 36) rfl (keep_cons (t := 37) rfl keep_nil)))))))))))))))))))))))) ?_
                refine aw_false rfl ?_
                refine aw_skip ?_
                show AW _ _ _ _ _ _ _
                refine aw_region ?_
                refine sr_x rfl (wtd_none rfl) rfl (Rd.x (x_move rfl)) ?_
                refine sr_x rfl (wtd_none rfl) rfl (Rd.x (x_add' rfl rfl (i64w (by omega) (by omega)))) ?_
                refine sr_x rfl (wtd_none rfl) rfl (Rd.x (x_assign rfl)) ?_
                refine sr_nil ?_
                show ∃ s', _ ∧ _ ∧ _ ∧ _
                exact ⟨k + 1, by omega, by omega, (keep_cons (t := 1) (v := .int .i64 (limN r.grow v (k + 1))) (congrArg (fun x => some (Value.int .i64 x)) (by show _ = stepL r.grow (limN r.grow v k); rw [hlaw]; omega)) (by repeat (first | exact keep_nil | refine keep_cons rfl ?_))), (by repeat (first | exact Sub.refl _ | apply Sub.drop))⟩
          · refine sr_x rfl (wtd_none rfl) rfl (Rd.x (x_pick_t rfl rfl rfl)) ?_
            refine sr_nil ?_
            refine aw_keep (keep_cons (t := 1) rfl (keep_cons (t := 2) rfl (keep_cons (t := 3) rfl (keep_cons (t := 7) rfl (keep_cons (t := 15) rfl (keep_cons (t := 16) rfl (keep_cons (t := 17) rfl (keep_cons (t := 18) rfl (keep_cons (t := 19) rfl (keep_cons (t := 20) rfl (keep_cons (t := 21) rfl keep_nil))))))))))) ?_
            refine aw_false rfl ?_
            refine aw_exit ?_
            show AW _ _ _ _ _ _ _
            refine aw_seq_region ?_
            refine sr_x rfl (wtd_none rfl) rfl (Rd.x (x_move rfl)) ?_
            refine sr_x rfl (wtd_none rfl) rfl (Rd.x (x_assign rfl)) ?_
            refine sr_nil ?_
            refine aw_keep (keep_cons (t := 6) rfl keep_nil) ?_
            refine aw_ret ?_
            show ∃ v H2, ResV _ _ _ _ _ _ v ∧ Sub H2 _ ∧ _
            exact ⟨_, H, resV rfl (.cons rfl .nil), (by repeat (first | exact Sub.refl _ | apply Sub.drop)), ⟨congrArg (Value.int .i64) (limitL_at (by omega)), rfl⟩⟩
        · refine sr_x rfl (wtd_none rfl) rfl (Rd.x (x_move rfl)) ?_
          refine sr_skip rfl (wtd_no rfl rfl rfl rfl) rfl ?_
          refine sr_skip rfl (wtd_no rfl rfl rfl rfl) rfl ?_
          refine sr_x rfl (wtd_none rfl) rfl (Rd.x (x_pick_f rfl rfl rfl)) ?_
          refine sr_nil ?_
          refine aw_keep (keep_cons (t := 1) rfl (keep_cons (t := 2) rfl (keep_cons (t := 3) rfl (keep_cons (t := 7) rfl (keep_cons (t := 15) rfl (keep_cons (t := 16) rfl (keep_cons (t := 17) rfl (keep_cons (t := 18) rfl (keep_cons (t := 19) rfl (keep_cons (t := 20) rfl (keep_cons (t := 21) rfl keep_nil))))))))))) ?_
          refine aw_false rfl ?_
          refine aw_exit ?_
          show AW _ _ _ _ _ _ _
          refine aw_seq_region ?_
          refine sr_x rfl (wtd_none rfl) rfl (Rd.x (x_move rfl)) ?_
          refine sr_x rfl (wtd_none rfl) rfl (Rd.x (x_assign rfl)) ?_
          refine sr_nil ?_
          refine aw_keep (keep_cons (t := 6) rfl keep_nil) ?_
          refine aw_ret ?_
          show ∃ v H2, ResV _ _ _ _ _ _ v ∧ Sub H2 _ ∧ _
          exact ⟨_, H, resV rfl (.cons rfl .nil), (by repeat (first | exact Sub.refl _ | apply Sub.drop)), ⟨congrArg (Value.int .i64) (limitL_at (by omega)), rfl⟩⟩
      · refine sr_nil ?_
        refine aw_keep (keep_cons (t := 1) rfl (keep_cons (t := 2) rfl (keep_cons (t := 3) rfl (keep_cons (t := 6) rfl (keep_cons (t := 14) rfl keep_nil))))) ?_
        refine aw_false rfl ?_
        refine aw_skip ?_
        show AW _ _ _ _ _ _ _
        refine aw_seq ?_
        refine aw_seq_region ?_
        refine sr_x rfl (wtd_none rfl) rfl (Rd.x (x_assign rfl)) ?_
        refine sr_nil ?_
        refine aw_keep (keep_cons (t := 1) rfl (keep_cons (t := 2) rfl (keep_cons (t := 3) rfl (keep_cons (t := 6) rfl (keep_cons (t := 7) rfl keep_nil))))) ?_
        refine aw_block ?_
        refine aw_keep (keep_cons (t := 1) (v := .int .i64 (limN r.grow v 0)) (congrArg (fun x => some (Value.int .i64 x)) (by unfold limN; omega)) (keep_cons (t := 2) (v := .int .i64 (max tries 0)) (congrArg (fun x => some (Value.int .i64 x)) (by omega)) (keep_cons (t := 3) rfl (keep_cons (t := 7) rfl keep_nil)))) ?_
        refine aw_loop (ι := Nat) (fun k => (k : Int) ≤ min (max tries 0) 127 + 1) (fun k => [(1, .int .i64 (limN r.grow v k)), (2, .int .i64 (max tries 0)), (3, .pointer (some ⟨r0_0, 0, none⟩)), (7, .int .i64 k)]) (fun _ => (r0_0, .cells r.cells.toArray 89 (0, 0)) :: H) (fun k => (min (max tries 0) 127 + 1 - k).toNat) 0 (by omega) (by repeat (first | exact keep_nil | refine keep_cons rfl ?_)) (by repeat (first | exact Sub.refl _ | apply Sub.drop)) ?_
        intro k hk
        have hlm := limN_in (v := v) hr.2.2 k
        have hsm := satMul_in hlm hr.2.2
        have hlaw := stepL_law hlm hr.2.2
        rw [Int.tdiv_eq_ediv_of_nonneg (by omega), Int.tmod_eq_emod_of_nonneg (by omega)] at hlaw
        refine aw_seq ?_
        refine aw_seq_region ?_
        refine sr_x rfl (wtd_none rfl) rfl (Rd.x (x_move rfl)) ?_
        refine sr_x rfl (wtd_none rfl) rfl (Rd.x (x_move rfl)) ?_
        refine sr_cmp rfl (wtd_none rfl) rfl (Rd.x (x_le rfl rfl)) (fun h43 => ?_) (fun h43 => ?_)
        · refine sr_x rfl (wtd_none rfl) rfl (Rd.x (x_move rfl)) ?_
          refine sr_x rfl (wtd_yes rfl rfl rfl) rfl (Rd.x (x_move rfl)) ?_
          refine sr_cmp rfl (wtd_yes rfl rfl rfl) rfl (Rd.x (x_lt rfl rfl)) (fun h44 => ?_) (fun h44 => ?_)
          · refine sr_x rfl (wtd_none rfl) rfl (Rd.x (x_pick_t rfl rfl rfl)) ?_
            refine sr_nil ?_
            refine aw_keep (keep_cons (t := 1) rfl (keep_cons (t := 2) rfl (keep_cons (t := 3) rfl (keep_cons (t := 7) rfl (keep_cons (t := 15) rfl (keep_cons (t := 16) rfl (keep_cons (t := 17) rfl (keep_cons (t := 18) rfl (keep_cons (t := 19) rfl (keep_cons (t := 20) rfl (keep_cons (t := 21) rfl keep_nil))))))))))) ?_
            refine aw_true rfl ?_
            refine aw_skip ?_
            show AW _ _ _ _ _ _ _
            refine aw_seq ?_
            refine aw_block ?_
            refine aw_seq_region ?_
            refine sr_x rfl (wtd_none rfl) rfl (Rd.x (x_move rfl)) ?_
            refine sr_x rfl (wtd_none rfl) rfl (Rd.x (x_fieldAddr fd89_4 rfl)) ?_
            refine sr_x rfl (wtd_none rfl) rfl (Rd.x (x_load ag3 rfl (cells_ext (by repeat (first | exact List.mem_cons_self | apply List.mem_cons_of_mem | apply List.mem_append_right)) (by repeat (first | exact Ext.all _ | exact Ext.done | apply Ext.take | apply Ext.skip))))) ?_
            refine sr_x rfl (wtd_none rfl) rfl (Rd.x (x_add' rfl rfl (i64w (by omega) (by omega)))) ?_
            refine sr_x rfl (wtd_none rfl) rfl (Rd.x (x_mul' rfl rfl (i64w (by omega) (by omega)))) ?_
            refine sr_x rfl (wtd_none rfl) rfl (Rd.x (x_assign rfl)) ?_
            refine sr_nil ?_
            refine aw_keep (keep_cons (t := 1) rfl (keep_cons (t := 2) rfl (keep_cons (t := 3) rfl (keep_cons (t := 7) rfl (keep_cons (t := 8) rfl (keep_cons (t := 15) rfl (keep_cons (t := 16) rfl (keep_cons (t := 17) rfl (keep_cons (t := 18) rfl (keep_cons (t := 19) rfl (keep_cons (t := 20) rfl (keep_cons (t := 21) rfl (keep_cons (t := 24) rfl (keep_cons (t := 25) rfl (keep_cons (t := 26) rfl (keep_cons (t := 27) rfl (keep_cons (t := 28) rfl keep_nil))))))))))))))))) ?_
            refine aw_seq_region ?_
            refine sr_x rfl (wtd_none rfl) rfl (Rd.x (x_move rfl)) ?_
            refine sr_x rfl (wtd_none rfl) rfl (Rd.x (x_cast (u := .int .i64 (limN r.grow v k * (100 + r.grow) / 100)) (x_quo' rfl rfl (by omega) (i64w (by rw [Int.tdiv_eq_ediv_of_nonneg (by omega)]; omega) (by rw [Int.tdiv_eq_ediv_of_nonneg (by omega)]; omega))) (by rw [Int.tdiv_eq_ediv_of_nonneg (by omega)]))) ?_
            refine sr_x rfl (wtd_none rfl) rfl (Rd.x (x_assign rfl)) ?_
            refine sr_nil ?_
            refine aw_keep (keep_cons (t := 1) rfl (keep_cons (t := 2) rfl (keep_cons (t := 3) rfl (keep_cons (t := 7) rfl (keep_cons (t := 8) rfl (keep_cons (t := 15) rfl (keep_cons (t := 16) rfl (keep_cons (t := 17) rfl (keep_cons (t := 18) rfl (keep_cons (t := 19) rfl (keep_cons (t := 20) rfl (keep_cons (t := 21) rfl (keep_cons (t := 24) rfl (keep_cons (t := 25) rfl (keep_cons (t := 26) rfl (keep_cons (t := 27) rfl (keep_cons (t := 28) rfl (keep_cons (t := 29) rfl (keep_cons (t := 30) rfl keep_nil))))))))))))))))))) ?_
            refine aw_seq ?_
            refine aw_seq_region ?_
            refine sr_x rfl (wtd_none rfl) rfl (Rd.x (x_move rfl)) ?_
            refine sr_x rfl (wtd_none rfl) rfl (Rd.x (x_cast (u := .int .i64 (limN r.grow v k * (100 + r.grow) % 100)) (x_rem rfl rfl (by omega)) (by rw [Int.tmod_eq_emod_of_nonneg (by omega)]))) ?_
            refine sr_cmp rfl (wtd_none rfl) rfl (Rd.x (x_gt rfl rfl)) (fun h45 => ?_) (fun h45 => ?_)
            · refine sr_nil ?_
              refine aw_keep (keep_cons (t := 1) rfl (keep_cons (t := 2) rfl (keep_cons (t := 3) rfl (keep_cons (t := 7) rfl (keep_cons (t := 8) rfl (keep_cons (t := 15) rfl (keep_cons (t := 16) rfl (keep_cons (t := 17) rfl (keep_cons (t := 18) rfl (keep_cons (t := 19) rfl (keep_cons (t := 20) rfl (keep_cons (t := 21) rfl (keep_cons (t := 24) rfl (keep_cons (t := 25) rfl (keep_cons (t := 26) rfl (keep_cons (t := 27) rfl (keep_cons (t := 28) rfl (keep_cons (t := 29) rfl (keep_cons (t := 30) rfl (keep_cons (t := 31) rfl (keep_cons (t := 32) rfl (keep_cons (t := 33) rfl keep_nil)))))))))))))))))))))) ?_
              refine aw_true rfl ?_
              refine aw_region ?_
              refine sr_x rfl (wtd_none rfl) rfl (Rd.x (x_move rfl)) ?_
              refine sr_x rfl (wtd_none rfl) rfl (Rd.x (x_add' rfl rfl (i64w (by omega) (by omega)))) ?_
              refine sr_x rfl (wtd_none rfl) rfl (Rd.x (x_assign rfl)) ?_
              refine sr_nil ?_
              show AW _ _ _ _ _ _ _
              refine aw_seq_region ?_
              refine sr_x rfl (wtd_none rfl) rfl (Rd.x (x_move rfl)) ?_
              refine sr_cmp rfl (wtd_none rfl) rfl (Rd.x (x_gt rfl rfl)) (fun h46 => ?_) (fun h46 => ?_)
              · refine sr_nil ?_
                refine aw_keep (keep_cons (t := 1) rfl (keep_cons (t := 2) rfl (keep_cons (t := 3) rfl (keep_cons (t := 7) rfl (keep_cons (t := 8) rfl (keep_cons (t := 15) rfl (keep_cons (t := 16) rfl (keep_cons (t := 17) rfl (keep_cons (t := 18) rfl (keep_cons (t := 19) rfl (keep_cons (t := 20) rfl (keep_cons (t := 21) rfl (keep_cons (t := 24) rfl (keep_cons (t := 25) rfl (keep_cons (t := 26) rfl (keep_cons (t := 27) rfl (keep_cons (t := 28) rfl (keep_cons (t := 29) rfl (keep_cons (t := 30) rfl (keep_cons (t := 31) rfl (keep_cons (t := 32) rfl (keep_cons (t := 33) rfl (keep_cons (t := 34) rfl (keep_cons (t := 35) rfl (keep_cons (t := 36) rfl (keep_cons (t := 37) rfl keep_nil)))))))))))))))))))))))))) ?_
                refine aw_true rfl ?_
                refine aw_region ?_
                refine sr_x rfl (wtd_none rfl) rfl (Rd.x (x_assign rfl)) ?_
                refine sr_nil ?_
                show AW _ _ _ _ _ _ _
                refine aw_region ?_
                refine sr_x rfl (wtd_none rfl) rfl (Rd.x (x_move rfl)) ?_
                refine sr_x rfl (wtd_none rfl) rfl (Rd.x (x_add' rfl rfl (i64w (by omega) (by omega)))) ?_
                refine sr_x rfl (wtd_none rfl) rfl (Rd.x (x_assign rfl)) ?_
                refine sr_nil ?_
                show ∃ s', _ ∧ _ ∧ _ ∧ _
                exact ⟨k + 1, by omega, by omega, (keep_cons (t := 1) (v := .int .i64 (limN r.grow v (k + 1))) (congrArg (fun x => some (Value.int .i64 x)) (by show _ = stepL r.grow (limN r.grow v k); rw [hlaw]; omega)) (by repeat (first | exact keep_nil | refine keep_cons rfl ?_))), (by repeat (first | exact Sub.refl _ | apply Sub.drop))⟩
              · refine sr_nil ?_
                refine aw_keep (keep_cons (t := 1) rfl (keep_cons (t := 2) rfl (keep_cons (t := 3) rfl (keep_cons (t := 7) rfl (keep_cons (t := 8) rfl (keep_cons (t := 15) rfl (keep_cons (t := 16) rfl (keep_cons (t := 17) rfl (keep_cons (t := 18) rfl (keep_cons (t := 19) rfl (keep_cons (t := 20) rfl (keep_cons (t := 21) rfl (keep_cons (t := 24) rfl (keep_cons (t := 25) rfl (keep_cons (t := 26) rfl (keep_cons (t := 27) rfl (keep_cons (t := 28) rfl (keep_cons (t := 29) rfl (keep_cons (t := 30) rfl (keep_cons (t := 31) rfl (keep_cons (t := 32) rfl (keep_cons (t := 33) rfl (keep_cons (t := 34) rfl (keep_cons (t := 35) rfl (keep_cons (t := 36) rfl (keep_cons (t := 37) rfl keep_nil)))))))))))))))))))))))))) ?_
                refine aw_false rfl ?_
                refine aw_skip ?_
                show AW _ _ _ _ _ _ _
                refine aw_region ?_
                refine sr_x rfl (wtd_none rfl) rfl (Rd.x (x_move rfl)) ?_
                refine sr_x rfl (wtd_none rfl) rfl (Rd.x (x_add' rfl rfl (i64w (by omega) (by omega)))) ?_
                refine sr_x rfl (wtd_none rfl) rfl (Rd.x (x_assign rfl)) ?_
                refine sr_nil ?_
                show ∃ s', _ ∧ _ ∧ _ ∧ _
                exact ⟨k + 1, by omega, by omega, (keep_cons (t := 1) (v := .int .i64 (limN r.grow v (k + 1))) (congrArg (fun x => some (Value.int .i64 x)) (by show _ = stepL r.grow (limN r.grow v k); rw [hlaw]; omega)) (by repeat (first | exact keep_nil | refine keep_cons rfl ?_))), (by repeat (first | exact Sub.refl _ | apply Sub.drop))⟩
            · refine sr_nil ?_
              refine aw_keep (keep_cons (t := 1) rfl (keep_cons (t := 2) rfl (keep_cons (t := 3) rfl (keep_cons (t := 7) rfl (keep_cons (t := 8) rfl (keep_cons (t := 15) rfl (keep_cons (t := 16) rfl (keep_cons (t := 17) rfl (keep_cons (t := 18) rfl (keep_cons (t := 19) rfl (keep_cons (t := 20) rfl (keep_cons (t := 21) rfl (keep_cons (t := 24) rfl (keep_cons (t := 25) rfl (keep_cons (t := 26) rfl (keep_cons (t := 27) rfl (keep_cons (t := 28) rfl (keep_cons (t := 29) rfl (keep_cons (t := 30) rfl (keep_cons (t := 31) rfl (keep_cons (t := 32) rfl (keep_cons (t := 33) rfl keep_nil)))))))))))))))))))))) ?_
              refine aw_false rfl ?_
              refine aw_skip ?_
              show AW _ _ _ _ _ _ _
              refine aw_seq_region ?_
              refine sr_x rfl (wtd_none rfl) rfl (Rd.x (x_move rfl)) ?_
              refine sr_cmp rfl (wtd_none rfl) rfl (Rd.x (x_gt rfl rfl)) (fun h47 => ?_) (fun h47 => ?_)
              · refine sr_nil ?_
                refine aw_keep (keep_cons (t := 1) rfl (keep_cons (t := 2) rfl (keep_cons (t := 3) rfl (keep_cons (t := 7) rfl (keep_cons (t := 8) rfl (keep_cons (t := 15) rfl (keep_cons (t := 16) rfl (keep_cons (t := 17) rfl (keep_cons (t := 18) rfl (keep_cons (t := 19) rfl (keep_cons (t := 20) rfl (keep_cons (t := 21) rfl (keep_cons (t := 24) rfl (keep_cons (t := 25) rfl (keep_cons (t := 26) rfl (keep_cons (t := 27) rfl (keep_cons (t := 28) rfl (keep_cons (t := 29) rfl (keep_cons (t := 30) rfl (keep_cons (t := 31) rfl (keep_cons (t := 32) rfl (keep_cons (t := 33) rfl (keep_cons (t := 36) rfl (keep_cons (t := 37) rfl keep_nil)))))))))))))))))))))))) ?_
                refine aw_true rfl ?_
                refine aw_region ?_
                refine sr_x rfl (wtd_none rfl) rfl (Rd.x (x_assign rfl)) ?_
                refine sr_nil ?_
                show AW _ _ _ _ _ _ _
                refine aw_region ?_
                refine sr_x rfl (wtd_none rfl) rfl (Rd.x (x_move rfl)) ?_
                refine sr_x rfl (wtd_none rfl) rfl (Rd.x (x_add' rfl rfl (i64w (by omega) (by omega)))) ?_
                refine sr_x rfl (wtd_none rfl) rfl (Rd.x (x_assign rfl)) ?_
                refine sr_nil ?_
                show ∃ s', _ ∧ _ ∧ _ ∧ _
                exact ⟨k + 1, by omega, by omega, (keep_cons (t := 1) (v := .int .i64 (limN r.grow v (k + 1))) (congrArg (fun x => some (Value.int .i64 x)) (by show _ = stepL r.grow (limN r.grow v k); rw [hlaw]; omega)) (by repeat (first | exact keep_nil | refine keep_cons rfl ?_))), (by repeat (first | exact Sub.refl _ | apply Sub.drop))⟩
              · refine sr_nil ?_
                refine aw_keep (keep_cons (t := 1) rfl (keep_cons (t := 2) rfl (keep_cons (t := 3) rfl (keep_cons (t := 7) rfl (keep_cons (t := 8) rfl (keep_cons (t := 15) rfl (keep_cons (t := 16) rfl (keep_cons (t := 17) rfl (keep_cons (t := 18) rfl (keep_cons (t := 19) rfl (keep_cons (t := 20) rfl (keep_cons (t := 21) rfl (keep_cons (t := 24) rfl (keep_cons (t := 25) rfl (keep_cons (t := 26) rfl (keep_cons (t := 27) rfl (keep_cons (t := 28) rfl (keep_cons (t := 29) rfl (keep_cons (t := 30) rfl (keep_cons (t := 31) rfl (keep_cons (t := 32) rfl (keep_cons (t := 33) rfl (keep_cons (t := 36) rfl (keep_cons (t := 37) rfl keep_nil)))))))))))))))))))))))) ?_
                refine aw_false rfl ?_
                refine aw_skip ?_
                show AW _ _ _ _ _ _ _
                refine aw_region ?_
                refine sr_x rfl (wtd_none rfl) rfl (Rd.x (x_move rfl)) ?_
                refine sr_x rfl (wtd_none rfl) rfl (Rd.x (x_add' rfl rfl (i64w (by omega) (by omega)))) ?_
                refine sr_x rfl (wtd_none rfl) rfl (Rd.x (x_assign rfl)) ?_
                refine sr_nil ?_
                show ∃ s', _ ∧ _ ∧ _ ∧ _
                exact ⟨k + 1, by omega, by omega, (keep_cons (t := 1) (v := .int .i64 (limN r.grow v (k + 1))) (congrArg (fun x => some (Value.int .i64 x)) (by show _ = stepL r.grow (limN r.grow v k); rw [hlaw]; omega)) (by repeat (first | exact keep_nil | refine keep_cons rfl ?_))), (by repeat (first | exact Sub.refl _ | apply Sub.drop))⟩
          · refine sr_x rfl (wtd_none rfl) rfl (Rd.x (x_pick_t rfl rfl rfl)) ?_
            refine sr_nil ?_
            refine aw_keep (keep_cons (t := 1) rfl (keep_cons (t := 2) rfl (keep_cons (t := 3) rfl (keep_cons (t := 7) rfl (keep_cons (t := 15) rfl (keep_cons (t := 16) rfl (keep_cons (t := 17) rfl (keep_cons (t := 18) rfl (keep_cons (t := 19) rfl (keep_cons (t := 20) rfl (keep_cons (t := 21) rfl keep_nil))))))))))) ?_
            refine aw_false rfl ?_
            refine aw_exit ?_
            show AW _ _ _ _ _ _ _
            refine aw_seq_region ?_
            refine sr_x rfl (wtd_none rfl) rfl (Rd.x (x_move rfl)) ?_
            refine sr_x rfl (wtd_none rfl) rfl (Rd.x (x_assign rfl)) ?_
            refine sr_nil ?_
            refine aw_keep (keep_cons (t := 6) rfl keep_nil) ?_
            refine aw_ret ?_
            show ∃ v H2, ResV _ _ _ _ _ _ v ∧ Sub H2 _ ∧ _
            exact ⟨_, H, resV rfl (.cons rfl .nil), (by repeat (first | exact Sub.refl _ | apply Sub.drop)), ⟨congrArg (Value.int .i64) (limitL_at (by omega)), rfl⟩⟩
        · refine sr_x rfl (wtd_none rfl) rfl (Rd.x (x_move rfl)) ?_
          refine sr_skip rfl (wtd_no rfl rfl rfl rfl) rfl ?_
          refine sr_skip rfl (wtd_no rfl rfl rfl rfl) rfl ?_
          refine sr_x rfl (wtd_none rfl) rfl (Rd.x (x_pick_f rfl rfl rfl)) ?_
          refine sr_nil ?_
          refine aw_keep (keep_cons (t := 1) rfl (keep_cons (t := 2) rfl (keep_cons (t := 3) rfl (keep_cons (t := 7) rfl (keep_cons (t := 15) rfl (keep_cons (t := 16) rfl (keep_cons (t := 17) rfl (keep_cons (t := 18) rfl (keep_cons (t := 19) rfl (keep_cons (t := 20) rfl (keep_cons (t := 21) rfl keep_nil))))))))))) ?_
          refine aw_false rfl ?_
          refine aw_exit ?_
          show AW _ _ _ _ _ _ _
          refine aw_seq_region ?_
          refine sr_x rfl (wtd_none rfl) rfl (Rd.x (x_move rfl)) ?_
          refine sr_x rfl (wtd_none rfl) rfl (Rd.x (x_assign rfl)) ?_
          refine sr_nil ?_
          refine aw_keep (keep_cons (t := 6) rfl keep_nil) ?_
          refine aw_ret ?_
          show ∃ v H2, ResV _ _ _ _ _ _ v ∧ Sub H2 _ ∧ _
          exact ⟨_, H, resV rfl (.cons rfl .nil), (by repeat (first | exact Sub.refl _ | apply Sub.drop)), ⟨congrArg (Value.int .i64) (limitL_at (by omega)), rfl⟩⟩
set_option maxRecDepth 100000 in
theorem read_Rule {H : Type} {enc : TypeId × Value → H} {w : World} {base : Nat} {spare : Nat → Bool} {held : Bool} {fuel : Nat} {cs : List Value} {x : DataW H × List MemPlace} (h : DataW.trod enc Try.prog w base spare held fuel 89 cs = some x) : ∃ j : Rule, cs = j.cells ∧ j.Wf := by
  obtain ⟨hlen, n, hf⟩ := read_struct Try.underlying89 h
  rw [cells89] at hlen
  obtain ⟨a0, e0, l0, u0⟩ := read_int Try.underlying3 cells3 (hf 0 _ rfl)
  obtain ⟨a1, e1⟩ := read_bool Try.underlying4 cells4 (hf 1 _ rfl)
  obtain ⟨a2, e2⟩ := read_bool Try.underlying4 cells4 (hf 2 _ rfl)
  obtain ⟨a3, e3, l3, u3⟩ := read_int Try.underlying2 cells2 (hf 3 _ rfl)
  obtain ⟨a4, e4, l4, u4⟩ := read_int Try.underlying3 cells3 (hf 4 _ rfl)
  refine ⟨⟨a0, a1, a2, a3, a4⟩, ?_, ⟨⟨l0, u0⟩, ⟨l3, u3⟩, ⟨l4, u4⟩⟩⟩
  apply List.ext_getElem?
  intro i
  match i with
  | 0 => exact e0
  | 1 => exact e1
  | 2 => exact e2
  | 3 => exact e3
  | 4 => exact e4
  | i + 5 => rw [List.getElem?_eq_none (by omega), List.getElem?_eq_none (by simp)]
set_option maxRecDepth 100000 in
theorem open_Rule {H : Type} {enc : TypeId × Value → H} {w : World} {base b0 : Nat} {spare : Nat → Bool} {held : Bool} {v : Value} {d : DataW H} {p : List MemPlace} {r : Reach} (hv : Value.okWide Try.prog w r b0 89 v) (h : DataW.Trod enc Try.prog w base spare held 89 v d p) : ∃ j : Rule, v = j.v ∧ j.Wf := by
  obtain ⟨cs, rfl, _⟩ := Go.WideShapes.okWide_struct Try.underlying89 hv
  obtain ⟨fuel, hf⟩ := h
  obtain ⟨j, h1, h2⟩ := read_Rule hf
  refine ⟨j, ?_, h2⟩
  have : cs = j.cells.toArray := by apply Array.toList_inj.1; exact h1
  rw [this]
end
end Go.Proofs.Yteilocpjikmmdaa
