/- Workloads are read of their texts. -/
import Derived.Test.YtbcajgkaepihfaaDoorSde
namespace Go.Proofs.YtbcajgkaepihfaaDoor
open Go.Proofs.YtbcajgkaepihfaaDoor.Sym
open Go.RowKit (Below)
set_option linter.unusedVariables false
set_option linter.unusedSimpArgs false
structure Ent where
  at_ : Int
  run : Int
  limit : Int
  width : Int
  user : Int
  prio : Int
@[reducible] def Ent.cells (j : Ent) : List Value := [.int .i64 j.at_, .int .i64 j.run, .int .i64 j.limit, .int .i64 j.width, .int .i64 j.user, .int .i64 j.prio]
@[reducible] def Ent.v (j : Ent) : Value := .agg (Ent.cells j).toArray
def Ent.Wf (j : Ent) : Prop := IntKind.min .i64 ≤ j.at_ ∧ j.at_ ≤ IntKind.max .i64 ∧ IntKind.min .i64 ≤ j.run ∧ j.run ≤ IntKind.max .i64 ∧ IntKind.min .i64 ≤ j.limit ∧ j.limit ≤ IntKind.max .i64 ∧ IntKind.min .i64 ≤ j.width ∧ j.width ≤ IntKind.max .i64 ∧ IntKind.min .i64 ≤ j.user ∧ j.user ≤ IntKind.max .i64 ∧ IntKind.min .i64 ≤ j.prio ∧ j.prio ≤ IntKind.max .i64
@[reducible] def zeroE : Ent := ⟨0, 0, 0, 0, 0, 0⟩
instance : Inhabited Ent := ⟨zeroE⟩
abbrev ERight (e : Ent) : Prop := (0 ≤ e.at_ ∧ e.at_ ≤ 549755813888) ∧ (1 ≤ e.run ∧ e.run ≤ 2097152) ∧ (1 ≤ e.limit ∧ e.limit ≤ 1048576) ∧ (1 ≤ e.width ∧ e.width ≤ 64) ∧ (0 ≤ e.user ∧ e.user ≤ 255) ∧ (0 ≤ e.prio ∧ e.prio ≤ 1000)
theorem eqC_ent (e : Ent) : eqC e.cells e.cells = true := by simp [eqC, sEq]
theorem all_oneE (xs : List Ent) : (xs.flatMap Ent.cells).all oneCell = true := all_flat (fun _ => rfl) xs
def entOf (ls : List Int) : Ent := ⟨ls.getD 0 0, ls.getD 1 0, ls.getD 2 0, ls.getD 3 0, ls.getD 4 0, ls.getD 5 0⟩
def eparse (l : List UInt8) : Option Ent :=
  if (spl 32 l).length ≠ 6 then none else match rdAll (spl 32 l) with
  | none => none
  | some ls => if ERight (entOf ls) then some (entOf ls) else none
theorem ep_len {l : List UInt8} (h : (spl 32 l).length ≠ 6) : eparse l = none := if_pos h
theorem ep_bad {l : List UInt8} {k : Nat} {x : List UInt8} (h : (spl 32 l).length = 6) (hx : (spl 32 l)[k]? = some x) (hr : readN x = none) : eparse l = none := by
  unfold eparse; rw [if_neg (fun q => q h), rdAll_bad hx hr]
theorem ep_ok {l : List UInt8} {ls : List Int} (h : (spl 32 l).length = 6) (hr : (spl 32 l).map readN = ls.map some) : eparse l = if ERight (entOf ls) then some (entOf ls) else none := by
  unfold eparse; rw [if_neg (fun q => q h), rdAll_ok hr]
theorem list6 {ls : List Int} (h : ls.length = 6) : ∃ a b c d e f, ls = [a, b, c, d, e, f] := by
  match ls, h with
  | [a, b, c, d, e, f], _ => exact ⟨a, b, c, d, e, f, rfl⟩
theorem spl_put6 {ls : List Int} {z : Int} {n : Nat} (h : ls.length < n) : Spl ((ls ++ List.replicate (n - ls.length) 0).flatMap intC) (0 + ((ls.length : Nat) : Int).toNat * 1) [.int .i64 z] (((ls ++ [z]) ++ List.replicate (n - (ls.length + 1)) 0).flatMap intC) := by
  have e1 : List.replicate (n - ls.length) (0 : Int) = [0] ++ List.replicate (n - (ls.length + 1)) 0 := by
    rw [show n - ls.length = (n - (ls.length + 1)) + 1 by omega, List.replicate_succ]; rfl
  rw [e1, List.flatMap_append, List.flatMap_append, List.flatMap_append, List.flatMap_append, List.append_assoc, Int.toNat_natCast]
  exact spl3 (by rw [flat_len (n := 1) (fun _ => rfl)]; omega) rfl
def skipL (w : List UInt8) : Prop := w = [] ∨ (([59] : List UInt8).length ≤ w.length ∧ w.take ([59] : List UInt8).length = [59])
instance (w : List UInt8) : Decidable (skipL w) := inferInstanceAs (Decidable (_ ∨ _))
def rdE : Nat → List Ent → List (List UInt8) → List Ent × Int × Int
  | _, acc, [] => (acc, 0, 0)
  | i, acc, w :: ws => if skipL w then rdE (i + 1) acc ws else match eparse w with
    | none => ([], (i : Int), 4)
    | some e => if 1024 ≤ acc.length then ([], (i : Int), 6) else rdE (i + 1) (acc ++ [e]) ws
def rdR (l : List UInt8) : List Ent × Int × Int := rdE 0 [] (spl 10 l)
section
variable {i : Nat} {acc : List Ent} {w : List UInt8} {ws : List (List UInt8)}
theorem rdE_skip (h : skipL w) : rdE i acc (w :: ws) = rdE (i + 1) acc ws := if_pos h
theorem rdE_bad (h : ¬ skipL w) (he : eparse w = none) : rdE i acc (w :: ws) = ([], (i : Int), 4) := by
  unfold rdE; rw [if_neg h, he]
theorem rdE_full {e : Ent} (h : ¬ skipL w) (he : eparse w = some e) (hl : 1024 ≤ acc.length) : rdE i acc (w :: ws) = ([], (i : Int), 6) := by
  conv => lhs; unfold rdE
  rw [if_neg h, he]
  exact if_pos hl
theorem rdE_ok {e : Ent} (h : ¬ skipL w) (he : eparse w = some e) (hl : ¬ 1024 ≤ acc.length) : rdE i acc (w :: ws) = rdE (i + 1) (acc ++ [e]) ws := by
  conv => lhs; unfold rdE
  rw [if_neg h, he]
  exact if_neg hl
end
theorem drop_at {α : Type} {xs : List α} {k : Nat} {x : α} (h : xs[k]? = some x) : xs.drop k = x :: xs.drop (k + 1) := by
  have hk := get_lt h
  have e : xs[k] = x := by rw [List.getElem_eq_iff]; exact h
  rw [← e]; exact List.drop_eq_getElem_cons hk
structure SwG where
  k : Nat
  acc : List Ent
  sl : Value
  E : SHeap
structure PaG where
  ls : List Int
theorem eparse_len {l : List UInt8} : (spl 32 l).length ≤ l.length + 1 := by
  have h1 := spl_len (c := 32) (l := l)
  have h2 := cntB_le 32 l
  omega
theorem ag30 : aggOf Tryd.prog 30 = some true := by kernel_rfl
theorem by30 : bytesOf Tryd.prog 30 = some 48 := by kernel_rfl
theorem cl19 : Callable Tryd.prog 19 := ⟨Tryd.f19, Tryd.func19, by kernel_rfl, by kernel_rfl⟩
theorem cl29 : Callable Tryd.prog 29 := ⟨Tryd.f29, Tryd.func29, by kernel_rfl, by kernel_rfl⟩
theorem cl52 : Callable Tryd.prog 52 := ⟨Tryd.f52, Tryd.func52, by kernel_rfl, by kernel_rfl⟩
theorem cl53 : Callable Tryd.prog 53 := ⟨Tryd.f53, Tryd.func53, by kernel_rfl, by kernel_rfl⟩
theorem fd30_0 : fldOf Tryd.prog 30 0 = some (0, 2, 1) := by kernel_rfl
theorem fd30_1 : fldOf Tryd.prog 30 1 = some (1, 2, 1) := by kernel_rfl
theorem fd30_2 : fldOf Tryd.prog 30 2 = some (2, 2, 1) := by kernel_rfl
theorem fd30_3 : fldOf Tryd.prog 30 3 = some (3, 3, 1) := by kernel_rfl
theorem fd30_4 : fldOf Tryd.prog 30 4 = some (4, 3, 1) := by kernel_rfl
theorem fd30_5 : fldOf Tryd.prog 30 5 = some (5, 3, 1) := by kernel_rfl
theorem fl30 : flds Tryd.prog 30 = some [(0, 1), (1, 1), (2, 1), (3, 1), (4, 1), (5, 1)] := by kernel_rfl
theorem ks30 : kindsOf Tryd.prog 30 = some [.int, .int, .int, .int, .int, .int] := by kernel_rfl
theorem sz30 : szOf Tryd.prog 30 = some 6 := by kernel_rfl
theorem zr30 : zeroOf Tryd.prog 30 = some (.agg #[.int .i64 0, .int .i64 0, .int .i64 0, .int .i64 0, .int .i64 0, .int .i64 0]) := by kernel_rfl
theorem zr97 : zeroOf Tryd.prog 97 = some (.agg #[.int .i64 0, .int .i64 0, .int .i64 0, .int .i64 0, .int .i64 0, .int .i64 0]) := by kernel_rfl
section
variable {W0 : World}
set_option maxRecDepth 100000 in
set_option maxHeartbeats 1000000 in
theorem eright_s (e : Ent) (H : SHeap) : AC Tryd.prog W0 29 [e.v] H (fun v H' => v = .bool (decide (ERight e)) ∧ H' = H) := by
  refine ac_of Tryd.func29 rfl rfl rfl ?_
  refine aw_seq_region ?_
  refine sr_new rfl (wtd_none rfl) rfl (x_box rfl rfl) ?_
  intro r0_0 hr0_0 gr0_0
  refine sr_as ?_
  refine sr_nil ?_
  refine aw_kp [1, 2] ?_
  refine aw_seq_region ?_
  refine sr_rd (x_fieldAddr fd30_0 rfl) ?_
  refine sr_rd (x_load ag2 rfl (cells_ext mauto Ext.auto)) ?_
  refine sr_c (x_ge rfl rfl) (fun h1 => ?_) (fun h1 => ?_)
  · refine sr_mv ?_
    refine sr_ry (x_fieldAddr fd30_0 rfl) ?_
    refine sr_ry (x_load ag2 rfl (cells_ext mauto Ext.auto)) ?_
    refine sr_cy (x_le rfl rfl) (fun h2 => ?_) (fun h2 => ?_)
    · refine sr_rd (x_pick_t rfl rfl rfl) ?_
      refine sr_mv ?_
      refine sr_ry (x_fieldAddr fd30_1 rfl) ?_
      refine sr_ry (x_load ag2 rfl (cells_ext mauto Ext.auto)) ?_
      refine sr_cy (x_ge rfl rfl) (fun h3 => ?_) (fun h3 => ?_)
      · refine sr_rd (x_pick_t rfl rfl rfl) ?_
        refine sr_mv ?_
        refine sr_ry (x_fieldAddr fd30_2 rfl) ?_
        refine sr_ry (x_load ag2 rfl (cells_ext mauto Ext.auto)) ?_
        refine sr_cy (x_ge rfl rfl) (fun h4 => ?_) (fun h4 => ?_)
        · refine sr_rd (x_pick_t rfl rfl rfl) ?_
          refine sr_mv ?_
          refine sr_ry (x_fieldAddr fd30_2 rfl) ?_
          refine sr_ry (x_load ag2 rfl (cells_ext mauto Ext.auto)) ?_
          refine sr_cy (x_le rfl rfl) (fun h5 => ?_) (fun h5 => ?_)
          · refine sr_rd (x_pick_t rfl rfl rfl) ?_
            refine sr_mv ?_
            refine sr_ry (x_fieldAddr fd30_1 rfl) ?_
            refine sr_ry (x_load ag2 rfl (cells_ext mauto Ext.auto)) ?_
            refine sr_cy (x_le rfl rfl) (fun h6 => ?_) (fun h6 => ?_)
            · refine sr_rd (x_pick_t rfl rfl rfl) ?_
              refine sr_mv ?_
              refine sr_ry (x_fieldAddr fd30_3 rfl) ?_
              refine sr_ry (x_load ag3 rfl (cells_ext mauto Ext.auto)) ?_
              refine sr_cy (x_ge rfl rfl) (fun h7 => ?_) (fun h7 => ?_)
              · refine sr_rd (x_pick_t rfl rfl rfl) ?_
                refine sr_mv ?_
                refine sr_ry (x_fieldAddr fd30_3 rfl) ?_
                refine sr_ry (x_load ag3 rfl (cells_ext mauto Ext.auto)) ?_
                refine sr_cy (x_le rfl rfl) (fun h8 => ?_) (fun h8 => ?_)
                · refine sr_rd (x_pick_t rfl rfl rfl) ?_
                  refine sr_mv ?_
                  refine sr_ry (x_fieldAddr fd30_4 rfl) ?_
                  refine sr_ry (x_load ag3 rfl (cells_ext mauto Ext.auto)) ?_
                  refine sr_cy (x_ge rfl rfl) (fun h9 => ?_) (fun h9 => ?_)
                  · refine sr_rd (x_pick_t rfl rfl rfl) ?_
                    refine sr_mv ?_
                    refine sr_ry (x_fieldAddr fd30_4 rfl) ?_
                    refine sr_ry (x_load ag3 rfl (cells_ext mauto Ext.auto)) ?_
                    refine sr_cy (x_le rfl rfl) (fun h10 => ?_) (fun h10 => ?_)
                    · refine sr_rd (x_pick_t rfl rfl rfl) ?_
                      refine sr_mv ?_
                      refine sr_ry (x_fieldAddr fd30_5 rfl) ?_
                      refine sr_ry (x_load ag3 rfl (cells_ext mauto Ext.auto)) ?_
                      refine sr_cy (x_ge rfl rfl) (fun h11 => ?_) (fun h11 => ?_)
                      · refine sr_rd (x_pick_t rfl rfl rfl) ?_
                        refine sr_mv ?_
                        refine sr_ry (x_fieldAddr fd30_5 rfl) ?_
                        refine sr_ry (x_load ag3 rfl (cells_ext mauto Ext.auto)) ?_
                        refine sr_cy (x_le rfl rfl) (fun h12 => ?_) (fun h12 => ?_)
                        · refine sr_rd (x_pick_t rfl rfl rfl) ?_
                          refine sr_as ?_
                          refine sr_nil ?_
                          refine aw_kp [2] ?_
                          refine aw_ret ?_
                          show ∃ v H2, ResV _ _ _ _ _ _ v ∧ Sub H2 _ ∧ _
                          exact ⟨_, H, resV rfl (.cons rfl .nil), Sub.autoP, ⟨congrArg Value.bool (by first | exact (decide_eq_true (p := ERight e) (by unfold ERight; omega)).symm | exact (decide_eq_false (p := ERight e) (by unfold ERight; omega)).symm), rfl⟩⟩
                        · refine sr_rd (x_pick_t rfl rfl rfl) ?_
                          refine sr_as ?_
                          refine sr_nil ?_
                          refine aw_kp [2] ?_
                          refine aw_ret ?_
                          show ∃ v H2, ResV _ _ _ _ _ _ v ∧ Sub H2 _ ∧ _
                          exact ⟨_, H, resV rfl (.cons rfl .nil), Sub.autoP, ⟨congrArg Value.bool (by first | exact (decide_eq_true (p := ERight e) (by unfold ERight; omega)).symm | exact (decide_eq_false (p := ERight e) (by unfold ERight; omega)).symm), rfl⟩⟩
                      · refine sr_rd (x_pick_t rfl rfl rfl) ?_
                        refine sr_mv ?_
                        refine sr_sk ?_
                        refine sr_sk ?_
                        refine sr_sk ?_
                        refine sr_rd (x_pick_f rfl rfl rfl) ?_
                        refine sr_as ?_
                        refine sr_nil ?_
                        refine aw_kp [2] ?_
                        refine aw_ret ?_
                        show ∃ v H2, ResV _ _ _ _ _ _ v ∧ Sub H2 _ ∧ _
                        exact ⟨_, H, resV rfl (.cons rfl .nil), Sub.autoP, ⟨congrArg Value.bool (by first | exact (decide_eq_true (p := ERight e) (by unfold ERight; omega)).symm | exact (decide_eq_false (p := ERight e) (by unfold ERight; omega)).symm), rfl⟩⟩
                    · refine sr_rd (x_pick_t rfl rfl rfl) ?_
                      refine sr_mv ?_
                      refine sr_sk ?_
                      refine sr_sk ?_
                      refine sr_sk ?_
                      refine sr_rd (x_pick_f rfl rfl rfl) ?_
                      refine sr_mv ?_
                      refine sr_sk ?_
                      refine sr_sk ?_
                      refine sr_sk ?_
                      refine sr_rd (x_pick_f rfl rfl rfl) ?_
                      refine sr_as ?_
                      refine sr_nil ?_
                      refine aw_kp [2] ?_
                      refine aw_ret ?_
                      show ∃ v H2, ResV _ _ _ _ _ _ v ∧ Sub H2 _ ∧ _
                      exact ⟨_, H, resV rfl (.cons rfl .nil), Sub.autoP, ⟨congrArg Value.bool (by first | exact (decide_eq_true (p := ERight e) (by unfold ERight; omega)).symm | exact (decide_eq_false (p := ERight e) (by unfold ERight; omega)).symm), rfl⟩⟩
                  · refine sr_rd (x_pick_t rfl rfl rfl) ?_
                    refine sr_mv ?_
                    refine sr_sk ?_
                    refine sr_sk ?_
                    refine sr_sk ?_
                    refine sr_rd (x_pick_f rfl rfl rfl) ?_
                    refine sr_mv ?_
                    refine sr_sk ?_
                    refine sr_sk ?_
                    refine sr_sk ?_
                    refine sr_rd (x_pick_f rfl rfl rfl) ?_
                    refine sr_mv ?_
                    refine sr_sk ?_
                    refine sr_sk ?_
                    refine sr_sk ?_
                    refine sr_rd (x_pick_f rfl rfl rfl) ?_
                    refine sr_as ?_
                    refine sr_nil ?_
                    refine aw_kp [2] ?_
                    refine aw_ret ?_
                    show ∃ v H2, ResV _ _ _ _ _ _ v ∧ Sub H2 _ ∧ _
                    exact ⟨_, H, resV rfl (.cons rfl .nil), Sub.autoP, ⟨congrArg Value.bool (by first | exact (decide_eq_true (p := ERight e) (by unfold ERight; omega)).symm | exact (decide_eq_false (p := ERight e) (by unfold ERight; omega)).symm), rfl⟩⟩
                · refine sr_rd (x_pick_t rfl rfl rfl) ?_
                  refine sr_mv ?_
                  refine sr_sk ?_
                  refine sr_sk ?_
                  refine sr_sk ?_
                  refine sr_rd (x_pick_f rfl rfl rfl) ?_
                  refine sr_mv ?_
                  refine sr_sk ?_
                  refine sr_sk ?_
                  refine sr_sk ?_
                  refine sr_rd (x_pick_f rfl rfl rfl) ?_
                  refine sr_mv ?_
                  refine sr_sk ?_
                  refine sr_sk ?_
                  refine sr_sk ?_
                  refine sr_rd (x_pick_f rfl rfl rfl) ?_
                  refine sr_mv ?_
                  refine sr_sk ?_
                  refine sr_sk ?_
                  refine sr_sk ?_
                  refine sr_rd (x_pick_f rfl rfl rfl) ?_
                  refine sr_as ?_
                  refine sr_nil ?_
                  refine aw_kp [2] ?_
                  refine aw_ret ?_
                  show ∃ v H2, ResV _ _ _ _ _ _ v ∧ Sub H2 _ ∧ _
                  exact ⟨_, H, resV rfl (.cons rfl .nil), Sub.autoP, ⟨congrArg Value.bool (by first | exact (decide_eq_true (p := ERight e) (by unfold ERight; omega)).symm | exact (decide_eq_false (p := ERight e) (by unfold ERight; omega)).symm), rfl⟩⟩
              · refine sr_rd (x_pick_t rfl rfl rfl) ?_
                refine sr_mv ?_
                refine sr_sk ?_
                refine sr_sk ?_
                refine sr_sk ?_
                refine sr_rd (x_pick_f rfl rfl rfl) ?_
                refine sr_mv ?_
                refine sr_sk ?_
                refine sr_sk ?_
                refine sr_sk ?_
                refine sr_rd (x_pick_f rfl rfl rfl) ?_
                refine sr_mv ?_
                refine sr_sk ?_
                refine sr_sk ?_
                refine sr_sk ?_
                refine sr_rd (x_pick_f rfl rfl rfl) ?_
                refine sr_mv ?_
                refine sr_sk ?_
                refine sr_sk ?_
                refine sr_sk ?_
                refine sr_rd (x_pick_f rfl rfl rfl) ?_
                refine sr_mv ?_
                refine sr_sk ?_
                refine sr_sk ?_
                refine sr_sk ?_
                refine sr_rd (x_pick_f rfl rfl rfl) ?_
                refine sr_as ?_
                refine sr_nil ?_
                refine aw_kp [2] ?_
                refine aw_ret ?_
                show ∃ v H2, ResV _ _ _ _ _ _ v ∧ Sub H2 _ ∧ _
                exact ⟨_, H, resV rfl (.cons rfl .nil), Sub.autoP, ⟨congrArg Value.bool (by first | exact (decide_eq_true (p := ERight e) (by unfold ERight; omega)).symm | exact (decide_eq_false (p := ERight e) (by unfold ERight; omega)).symm), rfl⟩⟩
            · refine sr_rd (x_pick_t rfl rfl rfl) ?_
              refine sr_mv ?_
              refine sr_sk ?_
              refine sr_sk ?_
              refine sr_sk ?_
              refine sr_rd (x_pick_f rfl rfl rfl) ?_
              refine sr_mv ?_
              refine sr_sk ?_
              refine sr_sk ?_
              refine sr_sk ?_
              refine sr_rd (x_pick_f rfl rfl rfl) ?_
              refine sr_mv ?_
              refine sr_sk ?_
              refine sr_sk ?_
              refine sr_sk ?_
              refine sr_rd (x_pick_f rfl rfl rfl) ?_
              refine sr_mv ?_
              refine sr_sk ?_
              refine sr_sk ?_
              refine sr_sk ?_
              refine sr_rd (x_pick_f rfl rfl rfl) ?_
              refine sr_mv ?_
              refine sr_sk ?_
              refine sr_sk ?_
              refine sr_sk ?_
              refine sr_rd (x_pick_f rfl rfl rfl) ?_
              refine sr_mv ?_
              refine sr_sk ?_
              refine sr_sk ?_
              refine sr_sk ?_
              refine sr_rd (x_pick_f rfl rfl rfl) ?_
              refine sr_as ?_
              refine sr_nil ?_
              refine aw_kp [2] ?_
              refine aw_ret ?_
              show ∃ v H2, ResV _ _ _ _ _ _ v ∧ Sub H2 _ ∧ _
              exact ⟨_, H, resV rfl (.cons rfl .nil), Sub.autoP, ⟨congrArg Value.bool (by first | exact (decide_eq_true (p := ERight e) (by unfold ERight; omega)).symm | exact (decide_eq_false (p := ERight e) (by unfold ERight; omega)).symm), rfl⟩⟩
          · refine sr_rd (x_pick_t rfl rfl rfl) ?_
            refine sr_mv ?_
            refine sr_sk ?_
            refine sr_sk ?_
            refine sr_sk ?_
            refine sr_rd (x_pick_f rfl rfl rfl) ?_
            refine sr_mv ?_
            refine sr_sk ?_
            refine sr_sk ?_
            refine sr_sk ?_
            refine sr_rd (x_pick_f rfl rfl rfl) ?_
            refine sr_mv ?_
            refine sr_sk ?_
            refine sr_sk ?_
            refine sr_sk ?_
            refine sr_rd (x_pick_f rfl rfl rfl) ?_
            refine sr_mv ?_
            refine sr_sk ?_
            refine sr_sk ?_
            refine sr_sk ?_
            refine sr_rd (x_pick_f rfl rfl rfl) ?_
            refine sr_mv ?_
            refine sr_sk ?_
            refine sr_sk ?_
            refine sr_sk ?_
            refine sr_rd (x_pick_f rfl rfl rfl) ?_
            refine sr_mv ?_
            refine sr_sk ?_
            refine sr_sk ?_
            refine sr_sk ?_
            refine sr_rd (x_pick_f rfl rfl rfl) ?_
            refine sr_mv ?_
            refine sr_sk ?_
            refine sr_sk ?_
            refine sr_sk ?_
            refine sr_rd (x_pick_f rfl rfl rfl) ?_
            refine sr_as ?_
            refine sr_nil ?_
            refine aw_kp [2] ?_
            refine aw_ret ?_
            show ∃ v H2, ResV _ _ _ _ _ _ v ∧ Sub H2 _ ∧ _
            exact ⟨_, H, resV rfl (.cons rfl .nil), Sub.autoP, ⟨congrArg Value.bool (by first | exact (decide_eq_true (p := ERight e) (by unfold ERight; omega)).symm | exact (decide_eq_false (p := ERight e) (by unfold ERight; omega)).symm), rfl⟩⟩
        · refine sr_rd (x_pick_t rfl rfl rfl) ?_
          refine sr_mv ?_
          refine sr_sk ?_
          refine sr_sk ?_
          refine sr_sk ?_
          refine sr_rd (x_pick_f rfl rfl rfl) ?_
          refine sr_mv ?_
          refine sr_sk ?_
          refine sr_sk ?_
          refine sr_sk ?_
          refine sr_rd (x_pick_f rfl rfl rfl) ?_
          refine sr_mv ?_
          refine sr_sk ?_
          refine sr_sk ?_
          refine sr_sk ?_
          refine sr_rd (x_pick_f rfl rfl rfl) ?_
          refine sr_mv ?_
          refine sr_sk ?_
          refine sr_sk ?_
          refine sr_sk ?_
          refine sr_rd (x_pick_f rfl rfl rfl) ?_
          refine sr_mv ?_
          refine sr_sk ?_
          refine sr_sk ?_
          refine sr_sk ?_
          refine sr_rd (x_pick_f rfl rfl rfl) ?_
          refine sr_mv ?_
          refine sr_sk ?_
          refine sr_sk ?_
          refine sr_sk ?_
          refine sr_rd (x_pick_f rfl rfl rfl) ?_
          refine sr_mv ?_
          refine sr_sk ?_
          refine sr_sk ?_
          refine sr_sk ?_
          refine sr_rd (x_pick_f rfl rfl rfl) ?_
          refine sr_mv ?_
          refine sr_sk ?_
          refine sr_sk ?_
          refine sr_sk ?_
          refine sr_rd (x_pick_f rfl rfl rfl) ?_
          refine sr_as ?_
          refine sr_nil ?_
          refine aw_kp [2] ?_
          refine aw_ret ?_
          show ∃ v H2, ResV _ _ _ _ _ _ v ∧ Sub H2 _ ∧ _
          exact ⟨_, H, resV rfl (.cons rfl .nil), Sub.autoP, ⟨congrArg Value.bool (by first | exact (decide_eq_true (p := ERight e) (by unfold ERight; omega)).symm | exact (decide_eq_false (p := ERight e) (by unfold ERight; omega)).symm), rfl⟩⟩
      · refine sr_rd (x_pick_t rfl rfl rfl) ?_
        refine sr_mv ?_
        refine sr_sk ?_
        refine sr_sk ?_
        refine sr_sk ?_
        refine sr_rd (x_pick_f rfl rfl rfl) ?_
        refine sr_mv ?_
        refine sr_sk ?_
        refine sr_sk ?_
        refine sr_sk ?_
        refine sr_rd (x_pick_f rfl rfl rfl) ?_
        refine sr_mv ?_
        refine sr_sk ?_
        refine sr_sk ?_
        refine sr_sk ?_
        refine sr_rd (x_pick_f rfl rfl rfl) ?_
        refine sr_mv ?_
        refine sr_sk ?_
        refine sr_sk ?_
        refine sr_sk ?_
        refine sr_rd (x_pick_f rfl rfl rfl) ?_
        refine sr_mv ?_
        refine sr_sk ?_
        refine sr_sk ?_
        refine sr_sk ?_
        refine sr_rd (x_pick_f rfl rfl rfl) ?_
        refine sr_mv ?_
        refine sr_sk ?_
        refine sr_sk ?_
        refine sr_sk ?_
        refine sr_rd (x_pick_f rfl rfl rfl) ?_
        refine sr_mv ?_
        refine sr_sk ?_
        refine sr_sk ?_
        refine sr_sk ?_
        refine sr_rd (x_pick_f rfl rfl rfl) ?_
        refine sr_mv ?_
        refine sr_sk ?_
        refine sr_sk ?_
        refine sr_sk ?_
        refine sr_rd (x_pick_f rfl rfl rfl) ?_
        refine sr_mv ?_
        refine sr_sk ?_
        refine sr_sk ?_
        refine sr_sk ?_
        refine sr_rd (x_pick_f rfl rfl rfl) ?_
        refine sr_as ?_
        refine sr_nil ?_
        refine aw_kp [2] ?_
        refine aw_ret ?_
        show ∃ v H2, ResV _ _ _ _ _ _ v ∧ Sub H2 _ ∧ _
        exact ⟨_, H, resV rfl (.cons rfl .nil), Sub.autoP, ⟨congrArg Value.bool (by first | exact (decide_eq_true (p := ERight e) (by unfold ERight; omega)).symm | exact (decide_eq_false (p := ERight e) (by unfold ERight; omega)).symm), rfl⟩⟩
    · refine sr_rd (x_pick_t rfl rfl rfl) ?_
      refine sr_mv ?_
      refine sr_sk ?_
      refine sr_sk ?_
      refine sr_sk ?_
      refine sr_rd (x_pick_f rfl rfl rfl) ?_
      refine sr_mv ?_
      refine sr_sk ?_
      refine sr_sk ?_
      refine sr_sk ?_
      refine sr_rd (x_pick_f rfl rfl rfl) ?_
      refine sr_mv ?_
      refine sr_sk ?_
      refine sr_sk ?_
      refine sr_sk ?_
      refine sr_rd (x_pick_f rfl rfl rfl) ?_
      refine sr_mv ?_
      refine sr_sk ?_
      refine sr_sk ?_
      refine sr_sk ?_
      refine sr_rd (x_pick_f rfl rfl rfl) ?_
      refine sr_mv ?_
      refine sr_sk ?_
      refine sr_sk ?_
      refine sr_sk ?_
      refine sr_rd (x_pick_f rfl rfl rfl) ?_
      refine sr_mv ?_
      refine sr_sk ?_
      refine sr_sk ?_
      refine sr_sk ?_
      refine sr_rd (x_pick_f rfl rfl rfl) ?_
      refine sr_mv ?_
      refine sr_sk ?_
      refine sr_sk ?_
      refine sr_sk ?_
      refine sr_rd (x_pick_f rfl rfl rfl) ?_
      refine sr_mv ?_
      refine sr_sk ?_
      refine sr_sk ?_
      refine sr_sk ?_
      refine sr_rd (x_pick_f rfl rfl rfl) ?_
      refine sr_mv ?_
      refine sr_sk ?_
      refine sr_sk ?_
      refine sr_sk ?_
      refine sr_rd (x_pick_f rfl rfl rfl) ?_
      refine sr_mv ?_
      refine sr_sk ?_
      refine sr_sk ?_
      refine sr_sk ?_
      refine sr_rd (x_pick_f rfl rfl rfl) ?_
      refine sr_as ?_
      refine sr_nil ?_
      refine aw_kp [2] ?_
      refine aw_ret ?_
      show ∃ v H2, ResV _ _ _ _ _ _ v ∧ Sub H2 _ ∧ _
      exact ⟨_, H, resV rfl (.cons rfl .nil), Sub.autoP, ⟨congrArg Value.bool (by first | exact (decide_eq_true (p := ERight e) (by unfold ERight; omega)).symm | exact (decide_eq_false (p := ERight e) (by unfold ERight; omega)).symm), rfl⟩⟩
  · refine sr_mv ?_
    refine sr_sk ?_
    refine sr_sk ?_
    refine sr_sk ?_
    refine sr_rd (x_pick_f rfl rfl rfl) ?_
    refine sr_mv ?_
    refine sr_sk ?_
    refine sr_sk ?_
    refine sr_sk ?_
    refine sr_rd (x_pick_f rfl rfl rfl) ?_
    refine sr_mv ?_
    refine sr_sk ?_
    refine sr_sk ?_
    refine sr_sk ?_
    refine sr_rd (x_pick_f rfl rfl rfl) ?_
    refine sr_mv ?_
    refine sr_sk ?_
    refine sr_sk ?_
    refine sr_sk ?_
    refine sr_rd (x_pick_f rfl rfl rfl) ?_
    refine sr_mv ?_
    refine sr_sk ?_
    refine sr_sk ?_
    refine sr_sk ?_
    refine sr_rd (x_pick_f rfl rfl rfl) ?_
    refine sr_mv ?_
    refine sr_sk ?_
    refine sr_sk ?_
    refine sr_sk ?_
    refine sr_rd (x_pick_f rfl rfl rfl) ?_
    refine sr_mv ?_
    refine sr_sk ?_
    refine sr_sk ?_
    refine sr_sk ?_
    refine sr_rd (x_pick_f rfl rfl rfl) ?_
    refine sr_mv ?_
    refine sr_sk ?_
    refine sr_sk ?_
    refine sr_sk ?_
    refine sr_rd (x_pick_f rfl rfl rfl) ?_
    refine sr_mv ?_
    refine sr_sk ?_
    refine sr_sk ?_
    refine sr_sk ?_
    refine sr_rd (x_pick_f rfl rfl rfl) ?_
    refine sr_mv ?_
    refine sr_sk ?_
    refine sr_sk ?_
    refine sr_sk ?_
    refine sr_rd (x_pick_f rfl rfl rfl) ?_
    refine sr_mv ?_
    refine sr_sk ?_
    refine sr_sk ?_
    refine sr_sk ?_
    refine sr_rd (x_pick_f rfl rfl rfl) ?_
    refine sr_as ?_
    refine sr_nil ?_
    refine aw_kp [2] ?_
    refine aw_ret ?_
    show ∃ v H2, ResV _ _ _ _ _ _ v ∧ Sub H2 _ ∧ _
    exact ⟨_, H, resV rfl (.cons rfl .nil), Sub.autoP, ⟨congrArg Value.bool (by first | exact (decide_eq_true (p := ERight e) (by unfold ERight; omega)).symm | exact (decide_eq_false (p := ERight e) (by unfold ERight; omega)).symm), rfl⟩⟩
set_option maxRecDepth 100000 in
set_option maxHeartbeats 1000000 in
theorem leright_s (e : Ent) (H : SHeap) : AC Tryd.prog W0 20 [e.v] H (fun v H' => v = .bool (decide (ERight e)) ∧ H' = H) := by
  refine ac_of Tryd.func20 rfl rfl rfl ?_
  refine aw_seq_region ?_
  refine sr_new rfl (wtd_none rfl) rfl (x_box rfl rfl) ?_
  intro r0_0 hr0_0 gr0_0
  refine sr_as ?_
  refine sr_nil ?_
  refine aw_kp [1, 2] ?_
  refine aw_seq_region ?_
  refine sr_rd (x_fieldAddr fd30_0 rfl) ?_
  refine sr_rd (x_load ag2 rfl (cells_ext mauto Ext.auto)) ?_
  refine sr_c (x_ge rfl rfl) (fun h1 => ?_) (fun h1 => ?_)
  · refine sr_mv ?_
    refine sr_ry (x_fieldAddr fd30_0 rfl) ?_
    refine sr_ry (x_load ag2 rfl (cells_ext mauto Ext.auto)) ?_
    refine sr_cy (x_le rfl rfl) (fun h2 => ?_) (fun h2 => ?_)
    · refine sr_rd (x_pick_t rfl rfl rfl) ?_
      refine sr_mv ?_
      refine sr_ry (x_fieldAddr fd30_1 rfl) ?_
      refine sr_ry (x_load ag2 rfl (cells_ext mauto Ext.auto)) ?_
      refine sr_cy (x_ge rfl rfl) (fun h3 => ?_) (fun h3 => ?_)
      · refine sr_rd (x_pick_t rfl rfl rfl) ?_
        refine sr_mv ?_
        refine sr_ry (x_fieldAddr fd30_1 rfl) ?_
        refine sr_ry (x_load ag2 rfl (cells_ext mauto Ext.auto)) ?_
        refine sr_cy (x_le rfl rfl) (fun h4 => ?_) (fun h4 => ?_)
        · refine sr_rd (x_pick_t rfl rfl rfl) ?_
          refine sr_mv ?_
          refine sr_ry (x_fieldAddr fd30_2 rfl) ?_
          refine sr_ry (x_load ag2 rfl (cells_ext mauto Ext.auto)) ?_
          refine sr_cy (x_ge rfl rfl) (fun h5 => ?_) (fun h5 => ?_)
          · refine sr_rd (x_pick_t rfl rfl rfl) ?_
            refine sr_mv ?_
            refine sr_ry (x_fieldAddr fd30_2 rfl) ?_
            refine sr_ry (x_load ag2 rfl (cells_ext mauto Ext.auto)) ?_
            refine sr_cy (x_le rfl rfl) (fun h6 => ?_) (fun h6 => ?_)
            · refine sr_rd (x_pick_t rfl rfl rfl) ?_
              refine sr_mv ?_
              refine sr_ry (x_fieldAddr fd30_3 rfl) ?_
              refine sr_ry (x_load ag3 rfl (cells_ext mauto Ext.auto)) ?_
              refine sr_cy (x_ge rfl rfl) (fun h7 => ?_) (fun h7 => ?_)
              · refine sr_rd (x_pick_t rfl rfl rfl) ?_
                refine sr_mv ?_
                refine sr_ry (x_fieldAddr fd30_3 rfl) ?_
                refine sr_ry (x_load ag3 rfl (cells_ext mauto Ext.auto)) ?_
                refine sr_cy (x_le rfl rfl) (fun h8 => ?_) (fun h8 => ?_)
                · refine sr_rd (x_pick_t rfl rfl rfl) ?_
                  refine sr_mv ?_
                  refine sr_ry (x_fieldAddr fd30_4 rfl) ?_
                  refine sr_ry (x_load ag3 rfl (cells_ext mauto Ext.auto)) ?_
                  refine sr_cy (x_ge rfl rfl) (fun h9 => ?_) (fun h9 => ?_)
                  · refine sr_rd (x_pick_t rfl rfl rfl) ?_
                    refine sr_mv ?_
                    refine sr_ry (x_fieldAddr fd30_4 rfl) ?_
                    refine sr_ry (x_load ag3 rfl (cells_ext mauto Ext.auto)) ?_
                    refine sr_cy (x_le rfl rfl) (fun h10 => ?_) (fun h10 => ?_)
                    · refine sr_rd (x_pick_t rfl rfl rfl) ?_
                      refine sr_mv ?_
                      refine sr_ry (x_fieldAddr fd30_5 rfl) ?_
                      refine sr_ry (x_load ag3 rfl (cells_ext mauto Ext.auto)) ?_
                      refine sr_cy (x_ge rfl rfl) (fun h11 => ?_) (fun h11 => ?_)
                      · refine sr_rd (x_pick_t rfl rfl rfl) ?_
                        refine sr_mv ?_
                        refine sr_ry (x_fieldAddr fd30_5 rfl) ?_
                        refine sr_ry (x_load ag3 rfl (cells_ext mauto Ext.auto)) ?_
                        refine sr_cy (x_le rfl rfl) (fun h12 => ?_) (fun h12 => ?_)
                        · refine sr_rd (x_pick_t rfl rfl rfl) ?_
                          refine sr_as ?_
                          refine sr_nil ?_
                          refine aw_kp [2] ?_
                          refine aw_ret ?_
                          show ∃ v H2, ResV _ _ _ _ _ _ v ∧ Sub H2 _ ∧ _
                          exact ⟨_, H, resV rfl (.cons rfl .nil), Sub.autoP, ⟨congrArg Value.bool (by first | exact (decide_eq_true (p := ERight e) (by unfold ERight; omega)).symm | exact (decide_eq_false (p := ERight e) (by unfold ERight; omega)).symm), rfl⟩⟩
                        · refine sr_rd (x_pick_t rfl rfl rfl) ?_
                          refine sr_as ?_
                          refine sr_nil ?_
                          refine aw_kp [2] ?_
                          refine aw_ret ?_
                          show ∃ v H2, ResV _ _ _ _ _ _ v ∧ Sub H2 _ ∧ _
                          exact ⟨_, H, resV rfl (.cons rfl .nil), Sub.autoP, ⟨congrArg Value.bool (by first | exact (decide_eq_true (p := ERight e) (by unfold ERight; omega)).symm | exact (decide_eq_false (p := ERight e) (by unfold ERight; omega)).symm), rfl⟩⟩
                      · refine sr_rd (x_pick_t rfl rfl rfl) ?_
                        refine sr_mv ?_
                        refine sr_sk ?_
                        refine sr_sk ?_
                        refine sr_sk ?_
                        refine sr_rd (x_pick_f rfl rfl rfl) ?_
                        refine sr_as ?_
                        refine sr_nil ?_
                        refine aw_kp [2] ?_
                        refine aw_ret ?_
                        show ∃ v H2, ResV _ _ _ _ _ _ v ∧ Sub H2 _ ∧ _
                        exact ⟨_, H, resV rfl (.cons rfl .nil), Sub.autoP, ⟨congrArg Value.bool (by first | exact (decide_eq_true (p := ERight e) (by unfold ERight; omega)).symm | exact (decide_eq_false (p := ERight e) (by unfold ERight; omega)).symm), rfl⟩⟩
                    · refine sr_rd (x_pick_t rfl rfl rfl) ?_
                      refine sr_mv ?_
                      refine sr_sk ?_
                      refine sr_sk ?_
                      refine sr_sk ?_
                      refine sr_rd (x_pick_f rfl rfl rfl) ?_
                      refine sr_mv ?_
                      refine sr_sk ?_
                      refine sr_sk ?_
                      refine sr_sk ?_
                      refine sr_rd (x_pick_f rfl rfl rfl) ?_
                      refine sr_as ?_
                      refine sr_nil ?_
                      refine aw_kp [2] ?_
                      refine aw_ret ?_
                      show ∃ v H2, ResV _ _ _ _ _ _ v ∧ Sub H2 _ ∧ _
                      exact ⟨_, H, resV rfl (.cons rfl .nil), Sub.autoP, ⟨congrArg Value.bool (by first | exact (decide_eq_true (p := ERight e) (by unfold ERight; omega)).symm | exact (decide_eq_false (p := ERight e) (by unfold ERight; omega)).symm), rfl⟩⟩
                  · refine sr_rd (x_pick_t rfl rfl rfl) ?_
                    refine sr_mv ?_
                    refine sr_sk ?_
                    refine sr_sk ?_
                    refine sr_sk ?_
                    refine sr_rd (x_pick_f rfl rfl rfl) ?_
                    refine sr_mv ?_
                    refine sr_sk ?_
                    refine sr_sk ?_
                    refine sr_sk ?_
                    refine sr_rd (x_pick_f rfl rfl rfl) ?_
                    refine sr_mv ?_
                    refine sr_sk ?_
                    refine sr_sk ?_
                    refine sr_sk ?_
                    refine sr_rd (x_pick_f rfl rfl rfl) ?_
                    refine sr_as ?_
                    refine sr_nil ?_
                    refine aw_kp [2] ?_
                    refine aw_ret ?_
                    show ∃ v H2, ResV _ _ _ _ _ _ v ∧ Sub H2 _ ∧ _
                    exact ⟨_, H, resV rfl (.cons rfl .nil), Sub.autoP, ⟨congrArg Value.bool (by first | exact (decide_eq_true (p := ERight e) (by unfold ERight; omega)).symm | exact (decide_eq_false (p := ERight e) (by unfold ERight; omega)).symm), rfl⟩⟩
                · refine sr_rd (x_pick_t rfl rfl rfl) ?_
                  refine sr_mv ?_
                  refine sr_sk ?_
                  refine sr_sk ?_
                  refine sr_sk ?_
                  refine sr_rd (x_pick_f rfl rfl rfl) ?_
                  refine sr_mv ?_
                  refine sr_sk ?_
                  refine sr_sk ?_
                  refine sr_sk ?_
                  refine sr_rd (x_pick_f rfl rfl rfl) ?_
                  refine sr_mv ?_
                  refine sr_sk ?_
                  refine sr_sk ?_
                  refine sr_sk ?_
                  refine sr_rd (x_pick_f rfl rfl rfl) ?_
                  refine sr_mv ?_
                  refine sr_sk ?_
                  refine sr_sk ?_
                  refine sr_sk ?_
                  refine sr_rd (x_pick_f rfl rfl rfl) ?_
                  refine sr_as ?_
                  refine sr_nil ?_
                  refine aw_kp [2] ?_
                  refine aw_ret ?_
                  show ∃ v H2, ResV _ _ _ _ _ _ v ∧ Sub H2 _ ∧ _
                  exact ⟨_, H, resV rfl (.cons rfl .nil), Sub.autoP, ⟨congrArg Value.bool (by first | exact (decide_eq_true (p := ERight e) (by unfold ERight; omega)).symm | exact (decide_eq_false (p := ERight e) (by unfold ERight; omega)).symm), rfl⟩⟩
              · refine sr_rd (x_pick_t rfl rfl rfl) ?_
                refine sr_mv ?_
                refine sr_sk ?_
                refine sr_sk ?_
                refine sr_sk ?_
                refine sr_rd (x_pick_f rfl rfl rfl) ?_
                refine sr_mv ?_
                refine sr_sk ?_
                refine sr_sk ?_
                refine sr_sk ?_
                refine sr_rd (x_pick_f rfl rfl rfl) ?_
                refine sr_mv ?_
                refine sr_sk ?_
                refine sr_sk ?_
                refine sr_sk ?_
                refine sr_rd (x_pick_f rfl rfl rfl) ?_
                refine sr_mv ?_
                refine sr_sk ?_
                refine sr_sk ?_
                refine sr_sk ?_
                refine sr_rd (x_pick_f rfl rfl rfl) ?_
                refine sr_mv ?_
                refine sr_sk ?_
                refine sr_sk ?_
                refine sr_sk ?_
                refine sr_rd (x_pick_f rfl rfl rfl) ?_
                refine sr_as ?_
                refine sr_nil ?_
                refine aw_kp [2] ?_
                refine aw_ret ?_
                show ∃ v H2, ResV _ _ _ _ _ _ v ∧ Sub H2 _ ∧ _
                exact ⟨_, H, resV rfl (.cons rfl .nil), Sub.autoP, ⟨congrArg Value.bool (by first | exact (decide_eq_true (p := ERight e) (by unfold ERight; omega)).symm | exact (decide_eq_false (p := ERight e) (by unfold ERight; omega)).symm), rfl⟩⟩
            · refine sr_rd (x_pick_t rfl rfl rfl) ?_
              refine sr_mv ?_
              refine sr_sk ?_
              refine sr_sk ?_
              refine sr_sk ?_
              refine sr_rd (x_pick_f rfl rfl rfl) ?_
              refine sr_mv ?_
              refine sr_sk ?_
              refine sr_sk ?_
              refine sr_sk ?_
              refine sr_rd (x_pick_f rfl rfl rfl) ?_
              refine sr_mv ?_
              refine sr_sk ?_
              refine sr_sk ?_
              refine sr_sk ?_
              refine sr_rd (x_pick_f rfl rfl rfl) ?_
              refine sr_mv ?_
              refine sr_sk ?_
              refine sr_sk ?_
              refine sr_sk ?_
              refine sr_rd (x_pick_f rfl rfl rfl) ?_
              refine sr_mv ?_
              refine sr_sk ?_
              refine sr_sk ?_
              refine sr_sk ?_
              refine sr_rd (x_pick_f rfl rfl rfl) ?_
              refine sr_mv ?_
              refine sr_sk ?_
              refine sr_sk ?_
              refine sr_sk ?_
              refine sr_rd (x_pick_f rfl rfl rfl) ?_
              refine sr_as ?_
              refine sr_nil ?_
              refine aw_kp [2] ?_
              refine aw_ret ?_
              show ∃ v H2, ResV _ _ _ _ _ _ v ∧ Sub H2 _ ∧ _
              exact ⟨_, H, resV rfl (.cons rfl .nil), Sub.autoP, ⟨congrArg Value.bool (by first | exact (decide_eq_true (p := ERight e) (by unfold ERight; omega)).symm | exact (decide_eq_false (p := ERight e) (by unfold ERight; omega)).symm), rfl⟩⟩
          · refine sr_rd (x_pick_t rfl rfl rfl) ?_
            refine sr_mv ?_
            refine sr_sk ?_
            refine sr_sk ?_
            refine sr_sk ?_
            refine sr_rd (x_pick_f rfl rfl rfl) ?_
            refine sr_mv ?_
            refine sr_sk ?_
            refine sr_sk ?_
            refine sr_sk ?_
            refine sr_rd (x_pick_f rfl rfl rfl) ?_
            refine sr_mv ?_
            refine sr_sk ?_
            refine sr_sk ?_
            refine sr_sk ?_
            refine sr_rd (x_pick_f rfl rfl rfl) ?_
            refine sr_mv ?_
            refine sr_sk ?_
            refine sr_sk ?_
            refine sr_sk ?_
            refine sr_rd (x_pick_f rfl rfl rfl) ?_
            refine sr_mv ?_
            refine sr_sk ?_
            refine sr_sk ?_
            refine sr_sk ?_
            refine sr_rd (x_pick_f rfl rfl rfl) ?_
            refine sr_mv ?_
            refine sr_sk ?_
            refine sr_sk ?_
            refine sr_sk ?_
            refine sr_rd (x_pick_f rfl rfl rfl) ?_
            refine sr_mv ?_
            refine sr_sk ?_
            refine sr_sk ?_
            refine sr_sk ?_
            refine sr_rd (x_pick_f rfl rfl rfl) ?_
            refine sr_as ?_
            refine sr_nil ?_
            refine aw_kp [2] ?_
            refine aw_ret ?_
            show ∃ v H2, ResV _ _ _ _ _ _ v ∧ Sub H2 _ ∧ _
            exact ⟨_, H, resV rfl (.cons rfl .nil), Sub.autoP, ⟨congrArg Value.bool (by first | exact (decide_eq_true (p := ERight e) (by unfold ERight; omega)).symm | exact (decide_eq_false (p := ERight e) (by unfold ERight; omega)).symm), rfl⟩⟩
        · refine sr_rd (x_pick_t rfl rfl rfl) ?_
          refine sr_mv ?_
          refine sr_sk ?_
          refine sr_sk ?_
          refine sr_sk ?_
          refine sr_rd (x_pick_f rfl rfl rfl) ?_
          refine sr_mv ?_
          refine sr_sk ?_
          refine sr_sk ?_
          refine sr_sk ?_
          refine sr_rd (x_pick_f rfl rfl rfl) ?_
          refine sr_mv ?_
          refine sr_sk ?_
          refine sr_sk ?_
          refine sr_sk ?_
          refine sr_rd (x_pick_f rfl rfl rfl) ?_
          refine sr_mv ?_
          refine sr_sk ?_
          refine sr_sk ?_
          refine sr_sk ?_
          refine sr_rd (x_pick_f rfl rfl rfl) ?_
          refine sr_mv ?_
          refine sr_sk ?_
          refine sr_sk ?_
          refine sr_sk ?_
          refine sr_rd (x_pick_f rfl rfl rfl) ?_
          refine sr_mv ?_
          refine sr_sk ?_
          refine sr_sk ?_
          refine sr_sk ?_
          refine sr_rd (x_pick_f rfl rfl rfl) ?_
          refine sr_mv ?_
          refine sr_sk ?_
          refine sr_sk ?_
          refine sr_sk ?_
          refine sr_rd (x_pick_f rfl rfl rfl) ?_
          refine sr_mv ?_
          refine sr_sk ?_
          refine sr_sk ?_
          refine sr_sk ?_
          refine sr_rd (x_pick_f rfl rfl rfl) ?_
          refine sr_as ?_
          refine sr_nil ?_
          refine aw_kp [2] ?_
          refine aw_ret ?_
          show ∃ v H2, ResV _ _ _ _ _ _ v ∧ Sub H2 _ ∧ _
          exact ⟨_, H, resV rfl (.cons rfl .nil), Sub.autoP, ⟨congrArg Value.bool (by first | exact (decide_eq_true (p := ERight e) (by unfold ERight; omega)).symm | exact (decide_eq_false (p := ERight e) (by unfold ERight; omega)).symm), rfl⟩⟩
      · refine sr_rd (x_pick_t rfl rfl rfl) ?_
        refine sr_mv ?_
        refine sr_sk ?_
        refine sr_sk ?_
        refine sr_sk ?_
        refine sr_rd (x_pick_f rfl rfl rfl) ?_
        refine sr_mv ?_
        refine sr_sk ?_
        refine sr_sk ?_
        refine sr_sk ?_
        refine sr_rd (x_pick_f rfl rfl rfl) ?_
        refine sr_mv ?_
        refine sr_sk ?_
        refine sr_sk ?_
        refine sr_sk ?_
        refine sr_rd (x_pick_f rfl rfl rfl) ?_
        refine sr_mv ?_
        refine sr_sk ?_
        refine sr_sk ?_
        refine sr_sk ?_
        refine sr_rd (x_pick_f rfl rfl rfl) ?_
        refine sr_mv ?_
        refine sr_sk ?_
        refine sr_sk ?_
        refine sr_sk ?_
        refine sr_rd (x_pick_f rfl rfl rfl) ?_
        refine sr_mv ?_
        refine sr_sk ?_
        refine sr_sk ?_
        refine sr_sk ?_
        refine sr_rd (x_pick_f rfl rfl rfl) ?_
        refine sr_mv ?_
        refine sr_sk ?_
        refine sr_sk ?_
        refine sr_sk ?_
        refine sr_rd (x_pick_f rfl rfl rfl) ?_
        refine sr_mv ?_
        refine sr_sk ?_
        refine sr_sk ?_
        refine sr_sk ?_
        refine sr_rd (x_pick_f rfl rfl rfl) ?_
        refine sr_mv ?_
        refine sr_sk ?_
        refine sr_sk ?_
        refine sr_sk ?_
        refine sr_rd (x_pick_f rfl rfl rfl) ?_
        refine sr_as ?_
        refine sr_nil ?_
        refine aw_kp [2] ?_
        refine aw_ret ?_
        show ∃ v H2, ResV _ _ _ _ _ _ v ∧ Sub H2 _ ∧ _
        exact ⟨_, H, resV rfl (.cons rfl .nil), Sub.autoP, ⟨congrArg Value.bool (by first | exact (decide_eq_true (p := ERight e) (by unfold ERight; omega)).symm | exact (decide_eq_false (p := ERight e) (by unfold ERight; omega)).symm), rfl⟩⟩
    · refine sr_rd (x_pick_t rfl rfl rfl) ?_
      refine sr_mv ?_
      refine sr_sk ?_
      refine sr_sk ?_
      refine sr_sk ?_
      refine sr_rd (x_pick_f rfl rfl rfl) ?_
      refine sr_mv ?_
      refine sr_sk ?_
      refine sr_sk ?_
      refine sr_sk ?_
      refine sr_rd (x_pick_f rfl rfl rfl) ?_
      refine sr_mv ?_
      refine sr_sk ?_
      refine sr_sk ?_
      refine sr_sk ?_
      refine sr_rd (x_pick_f rfl rfl rfl) ?_
      refine sr_mv ?_
      refine sr_sk ?_
      refine sr_sk ?_
      refine sr_sk ?_
      refine sr_rd (x_pick_f rfl rfl rfl) ?_
      refine sr_mv ?_
      refine sr_sk ?_
      refine sr_sk ?_
      refine sr_sk ?_
      refine sr_rd (x_pick_f rfl rfl rfl) ?_
      refine sr_mv ?_
      refine sr_sk ?_
      refine sr_sk ?_
      refine sr_sk ?_
      refine sr_rd (x_pick_f rfl rfl rfl) ?_
      refine sr_mv ?_
      refine sr_sk ?_
      refine sr_sk ?_
      refine sr_sk ?_
      refine sr_rd (x_pick_f rfl rfl rfl) ?_
      refine sr_mv ?_
      refine sr_sk ?_
      refine sr_sk ?_
      refine sr_sk ?_
      refine sr_rd (x_pick_f rfl rfl rfl) ?_
      refine sr_mv ?_
      refine sr_sk ?_
      refine sr_sk ?_
      refine sr_sk ?_
      refine sr_rd (x_pick_f rfl rfl rfl) ?_
      refine sr_mv ?_
      refine sr_sk ?_
      refine sr_sk ?_
      refine sr_sk ?_
      refine sr_rd (x_pick_f rfl rfl rfl) ?_
      refine sr_as ?_
      refine sr_nil ?_
      refine aw_kp [2] ?_
      refine aw_ret ?_
      show ∃ v H2, ResV _ _ _ _ _ _ v ∧ Sub H2 _ ∧ _
      exact ⟨_, H, resV rfl (.cons rfl .nil), Sub.autoP, ⟨congrArg Value.bool (by first | exact (decide_eq_true (p := ERight e) (by unfold ERight; omega)).symm | exact (decide_eq_false (p := ERight e) (by unfold ERight; omega)).symm), rfl⟩⟩
  · refine sr_mv ?_
    refine sr_sk ?_
    refine sr_sk ?_
    refine sr_sk ?_
    refine sr_rd (x_pick_f rfl rfl rfl) ?_
    refine sr_mv ?_
    refine sr_sk ?_
    refine sr_sk ?_
    refine sr_sk ?_
    refine sr_rd (x_pick_f rfl rfl rfl) ?_
    refine sr_mv ?_
    refine sr_sk ?_
    refine sr_sk ?_
    refine sr_sk ?_
    refine sr_rd (x_pick_f rfl rfl rfl) ?_
    refine sr_mv ?_
    refine sr_sk ?_
    refine sr_sk ?_
    refine sr_sk ?_
    refine sr_rd (x_pick_f rfl rfl rfl) ?_
    refine sr_mv ?_
    refine sr_sk ?_
    refine sr_sk ?_
    refine sr_sk ?_
    refine sr_rd (x_pick_f rfl rfl rfl) ?_
    refine sr_mv ?_
    refine sr_sk ?_
    refine sr_sk ?_
    refine sr_sk ?_
    refine sr_rd (x_pick_f rfl rfl rfl) ?_
    refine sr_mv ?_
    refine sr_sk ?_
    refine sr_sk ?_
    refine sr_sk ?_
    refine sr_rd (x_pick_f rfl rfl rfl) ?_
    refine sr_mv ?_
    refine sr_sk ?_
    refine sr_sk ?_
    refine sr_sk ?_
    refine sr_rd (x_pick_f rfl rfl rfl) ?_
    refine sr_mv ?_
    refine sr_sk ?_
    refine sr_sk ?_
    refine sr_sk ?_
    refine sr_rd (x_pick_f rfl rfl rfl) ?_
    refine sr_mv ?_
    refine sr_sk ?_
    refine sr_sk ?_
    refine sr_sk ?_
    refine sr_rd (x_pick_f rfl rfl rfl) ?_
    refine sr_mv ?_
    refine sr_sk ?_
    refine sr_sk ?_
    refine sr_sk ?_
    refine sr_rd (x_pick_f rfl rfl rfl) ?_
    refine sr_as ?_
    refine sr_nil ?_
    refine aw_kp [2] ?_
    refine aw_ret ?_
    show ∃ v H2, ResV _ _ _ _ _ _ v ∧ Sub H2 _ ∧ _
    exact ⟨_, H, resV rfl (.cons rfl .nil), Sub.autoP, ⟨congrArg Value.bool (by first | exact (decide_eq_true (p := ERight e) (by unfold ERight; omega)).symm | exact (decide_eq_false (p := ERight e) (by unfold ERight; omega)).symm), rfl⟩⟩
set_option maxRecDepth 100000 in
set_option maxHeartbeats 400000 in
theorem hasp52_s (l p : List UInt8) (H : SHeap) : AC Tryd.prog W0 52 [.string (bs l), .string (bs p)] H (fun v H' => (∃ c : Bool, v = .bool c ∧ (c = true ↔ p.length ≤ l.length ∧ l.take p.length = p)) ∧ H' = H) := by
  refine ac_of Tryd.func52 rfl rfl rfl ?_
  refine aw_seq_region ?_
  refine sr_as ?_
  refine sr_nil ?_
  refine aw_kp [0, 1, 4] ?_
  refine aw_seq_region ?_
  refine sr_mv ?_
  refine sr_mv ?_
  refine sr_d rfl (wtd_none rfl) rfl (opS_call rfl rfl rfl rfl cl75 (hasp_s _ _ _)) ?_
  rintro _ H ⟨⟨c, rfl, hc⟩, rfl⟩
  refine sr_as ?_
  refine sr_nil ?_
  refine aw_kp [4] ?_
  refine aw_ret ?_
  show ∃ v H2, ResV _ _ _ _ _ _ v ∧ Sub H2 _ ∧ _
  exact ⟨_, H, resV rfl (.cons rfl .nil), (by repeat (first | exact Sub.refl _ | apply Sub.drop)), ⟨⟨_, rfl, hc⟩, rfl⟩⟩
set_option maxRecDepth 100000 in
set_option maxHeartbeats 2000000 in
theorem eparse_s (l : List UInt8) (hl : l.length ≤ 900000) (H : SHeap) : AC Tryd.prog W0 53 [.string (bs l)] H (fun v H' => ((∃ e, eparse l = some e ∧ v = .tuple #[Ent.v e, .bool true]) ∨ (eparse l = none ∧ ∃ e, v = .tuple #[Ent.v e, .bool false])) ∧ H' = H) := by
  refine ac_of Tryd.func53 rfl rfl rfl ?_
  refine aw_seq_region ?_
  refine sr_new rfl (wtd_none rfl) rfl (x_alloc zr30 rfl) ?_
  intro r0_0 hr0_0 gr0_0
  refine sr_as ?_
  refine sr_nil ?_
  refine aw_kp [0, 2, 3] ?_
  refine aw_seq_region ?_
  refine sr_mv ?_
  refine sr_d rfl (wtd_none rfl) rfl (opS_call rfl rfl rfl rfl cl51 (split_s l 32 (by omega) _)) ?_
  rintro _ _ ⟨a, cap, E, rfl, V, rfl⟩
  have hmem := spl_mem_len (c := 32) (l := l)
  have hsl := spl_len (c := 32) (l := l)
  have hcl := cntB_le 32 l
  have hsV := V.slv' (W0 := W0) (xs := spl 32 l) (fun _ => rfl) rfl (Sub.refl _)
  have hleV := hsV.le
  have hcbV := hsV.capb
  refine sr_as ?_
  refine sr_nil ?_
  refine aw_kp [2, 3, 4] ?_
  refine aw_seq ?_
  refine aw_seq_region ?_
  refine sr_mv ?_
  refine sr_rd (x_lenSlice Tryd.underlying49 rfl) ?_
  refine sr_c (x_ne rfl rfl) (fun h1 => ?_) (fun h1 => ?_)
  · refine sr_nil ?_
    refine aw_kp [2, 3, 4, 15] ?_
    refine aw_true rfl ?_
    refine aw_seq_region ?_
    refine sr_rd (x_build zr30 rfl fl30 Parts.auto Fill.auto) ?_
    refine sr_x0 rfl (wtd_none rfl) (x_store sz30 rfl rfl rfl rfl rfl Repl.auto Spl.auto) ?_
    refine sr_as ?_
    refine sr_nil ?_
    refine aw_kp [2, 3, 4] ?_
    refine aw_ret ?_
    show ∃ v H2, ResV _ _ _ _ _ _ v ∧ Sub H2 _ ∧ _
    exact ⟨_, H, resV rfl (.cons (⟨_, rfl, fun hw => rd_loadVarN ag30 sz30 hw (cells_ext mauto Ext.auto) rfl⟩) (.cons rfl .nil)), Sub.autoP, ⟨.inr ⟨ep_len (by omega), zeroE, rfl⟩, rfl⟩⟩
  · refine sr_nil ?_
    refine aw_kp [2, 3, 4, 15] ?_
    refine aw_false rfl ?_
    refine aw_skip ?_
    show AW _ _ _ _ _ _ _
    refine aw_seq_region ?_
    have h6 : (spl 32 l).length = 6 := by omega
    refine sr_new rfl (wtd_none rfl) rfl (x_alloc zr97 rfl) ?_
    intro r4_0 hr4_0 gr4_0
    refine sr_nil ?_
    refine aw_kp [2, 3, 4, 5] ?_
    refine aw_seq ?_
    refine aw_seq_region ?_
    refine sr_mv ?_
    refine sr_rd (x_lenSlice Tryd.underlying49 rfl) ?_
    refine sr_mv ?_
    refine sr_nil ?_
    refine aw_kp [2, 3, 5, 17, 18, 19] ?_
    refine aw_block ?_
    refine aw_loop (ι := PaG) (fun s => s.ls.length ≤ 6 ∧ ((spl 32 l).take s.ls.length).map readN = s.ls.map some) (fun s => [(2, .pointer (some ⟨r0_0, 0, none⟩)), (3, .bool false), (5, .pointer (some ⟨r4_0, 0, none⟩)), (17, .slice a (spl 32 l).length cap), (18, .int .i64 (spl 32 l).length), (19, .int .i64 s.ls.length)]) (fun s => (r4_0, .cells ((s.ls ++ List.replicate (6 - (s.ls).length) 0).flatMap intC).toArray 97 (0, 0)) :: (E ++ ((r0_0, .cells (Ent.cells (zeroE)).toArray 30 (0, 0)) :: H))) (fun s => 6 - s.ls.length) ⟨[]⟩ (⟨by simp, rfl⟩) KeepF.auto Sub.autoP ?_
    intro s hs9
    obtain ⟨ls⟩ := s
    dsimp only at hs9 ⊢
    obtain ⟨hk, hmp⟩ := hs9
    refine aw_seq_region ?_
    refine sr_c (x_lt rfl rfl) (fun h2 => ?_) (fun h2 => ?_)
    · refine sr_nil ?_
      refine aw_kp [2, 3, 5, 17, 18, 19, 20] ?_
      refine aw_seq ?_
      refine aw_true rfl ?_
      refine aw_skip ?_
      show AW _ _ _ _ _ _ _
      refine aw_seq ?_
      refine aw_block ?_
      refine aw_seq_region ?_
      obtain ⟨x, hx⟩ := get_ex (show ls.length < (spl 32 l).length by omega)
      obtain ⟨bx, ox, hax, hcx⟩ := hsV.at_ (ls.length) x hx
      have hxl := hmem x (List.mem_of_getElem? hx)
      refine sr_mv ?_
      refine sr_rd (x_indexAddrN (ls.length) Tryd.underlying49 sz9 rfl hax rfl (by omega) (by omega)) ?_
      refine sr_rd (x_load ag9 rfl (Cells.mono hcx Sub.autoE)) ?_
      refine sr_as ?_
      refine sr_as ?_
      refine sr_nil ?_
      refine aw_kp [2, 3, 5, 6, 7, 17, 18, 19, 20, 21, 22, 23] ?_
      refine aw_seq_region ?_
      refine sr_mv ?_
      refine sr_d rfl (wtd_none rfl) rfl (opS_call rfl rfl rfl rfl cl26 (read_s x _ (by omega))) ?_
      rintro _ H9 ⟨rfl, rfl⟩
      cases hrx : readN x
      · refine sr_mv ?_
        refine sr_rd (x_extract rfl rfl) ?_
        refine sr_rd (x_extract rfl rfl) ?_
        refine sr_as ?_
        refine sr_as ?_
        refine sr_nil ?_
        refine aw_kp [2, 3, 5, 6, 7, 8, 9, 17, 18, 19, 20, 21, 22, 23, 24, 25, 26, 27, 28] ?_
        refine aw_seq ?_
        refine aw_seq_region ?_
        refine sr_mv ?_
        refine sr_rd (x_not rfl) ?_
        refine sr_nil ?_
        refine aw_kp [2, 3, 5, 6, 7, 8, 9, 17, 18, 19, 20, 21, 22, 23, 24, 25, 26, 27, 28, 29, 30] ?_
        refine aw_true rfl ?_
        refine aw_seq_region ?_
        refine sr_rd (x_build zr30 rfl fl30 Parts.auto Fill.auto) ?_
        refine sr_x0 rfl (wtd_none rfl) (x_store sz30 rfl rfl rfl rfl rfl Repl.auto Spl.auto) ?_
        refine sr_as ?_
        refine sr_nil ?_
        refine aw_kp [2, 3, 5, 6, 7, 8, 9, 17, 18, 19, 20, 21, 22, 23, 24, 25, 26, 27, 28, 29, 30, 31] ?_
        refine aw_ret ?_
        show ∃ v H2, ResV _ _ _ _ _ _ v ∧ Sub H2 _ ∧ _
        exact ⟨_, H, resV rfl (.cons (⟨_, rfl, fun hw => rd_loadVarN ag30 sz30 hw (cells_ext mauto Ext.auto) rfl⟩) (.cons rfl .nil)), Sub.autoP, ⟨.inr ⟨ep_bad h6 hx hrx, zeroE, rfl⟩, rfl⟩⟩
      · rename_i z
        refine sr_mv ?_
        refine sr_rd (x_extract rfl rfl) ?_
        refine sr_rd (x_extract rfl rfl) ?_
        refine sr_as ?_
        refine sr_as ?_
        refine sr_nil ?_
        refine aw_kp [2, 3, 5, 6, 7, 8, 9, 17, 18, 19, 20, 21, 22, 23, 24, 25, 26, 27, 28] ?_
        refine aw_seq ?_
        refine aw_seq_region ?_
        refine sr_mv ?_
        refine sr_rd (x_not rfl) ?_
        refine sr_nil ?_
        refine aw_kp [2, 3, 5, 6, 7, 8, 9, 17, 18, 19, 20, 21, 22, 23, 24, 25, 26, 27, 28, 29, 30] ?_
        refine aw_false rfl ?_
        refine aw_skip ?_
        show AW _ _ _ _ _ _ _
        refine aw_region ?_
        refine sr_mv ?_
        refine sr_mv ?_
        refine sr_rd (x_indexAddrA Tryd.underlying97 sz2 rfl rfl (by omega) (by omega)) ?_
        refine sr_x0 rfl (wtd_none rfl) (x_store sz2 rfl rfl rfl rfl rfl Repl.auto (spl_put6 (by omega))) ?_
        refine sr_nil ?_
        show AW _ _ _ _ _ _ _
        refine aw_region ?_
        refine sr_rd (x_add' rfl rfl (i64w (by omega) (by omega))) ?_
        refine sr_mv ?_
        refine sr_nil ?_
        show ∃ s', _ ∧ _ ∧ _ ∧ _
        exact ⟨⟨ls ++ [z]⟩, ⟨by dsimp only; rw [List.length_append, List.length_singleton]; omega, (by dsimp only; rw [List.length_append, List.length_singleton]; exact map_snoc hmp hx hrx)⟩, (by dsimp only; rw [List.length_append, List.length_singleton]; omega), (by dsimp only; rw [List.length_append, List.length_singleton]; exact KeepF.auto), (by dsimp only; rw [List.length_append, List.length_singleton]; exact Sub.autoP)⟩
    · refine sr_nil ?_
      refine aw_kp [2, 3, 5, 17, 18, 19, 20] ?_
      refine aw_seq ?_
      refine aw_false rfl ?_
      refine aw_exit ?_
      show AW _ _ _ _ _ _ _
      refine aw_seq_region ?_
      have hl6 : ls.length = 6 := by omega
      rw [hl6, show (6 : Nat) = (spl 32 l).length from h6.symm, List.take_length] at hmp
      obtain ⟨a0, a1, a2, a3, a4, a5, rfl⟩ := list6 hl6
      rw [show List.flatMap intC (([a0, a1, a2, a3, a4, a5] : List Int) ++ List.replicate (6 - ([a0, a1, a2, a3, a4, a5] : List Int).length) 0) = ([.int .i64 a0, .int .i64 a1, .int .i64 a2, .int .i64 a3, .int .i64 a4, .int .i64 a5] : List Value) from rfl]
      refine sr_rd (x_indexAddrA Tryd.underlying97 sz2 rfl rfl (by omega) (by omega)) ?_
      refine sr_rd (x_load ag2 rfl (cells_ext mauto Ext.auto)) ?_
      refine sr_rd (x_indexAddrA Tryd.underlying97 sz2 rfl rfl (by omega) (by omega)) ?_
      refine sr_rd (x_load ag2 rfl (cells_ext mauto Ext.auto)) ?_
      refine sr_rd (x_indexAddrA Tryd.underlying97 sz2 rfl rfl (by omega) (by omega)) ?_
      refine sr_rd (x_load ag2 rfl (cells_ext mauto Ext.auto)) ?_
      refine sr_rd (x_indexAddrA Tryd.underlying97 sz2 rfl rfl (by omega) (by omega)) ?_
      refine sr_rd (x_load ag2 rfl (cells_ext mauto Ext.auto)) ?_
      refine sr_rd (x_indexAddrA Tryd.underlying97 sz2 rfl rfl (by omega) (by omega)) ?_
      refine sr_rd (x_load ag2 rfl (cells_ext mauto Ext.auto)) ?_
      refine sr_rd (x_indexAddrA Tryd.underlying97 sz2 rfl rfl (by omega) (by omega)) ?_
      refine sr_rd (x_load ag2 rfl (cells_ext mauto Ext.auto)) ?_
      refine sr_rd (x_build zr30 rfl fl30 Parts.auto Fill.auto) ?_
      refine sr_new rfl (wtd_none rfl) rfl (x_alloc zr30 rfl) ?_
      intro r13_13 hr13_13 gr13_13
      refine sr_x0 rfl (wtd_none rfl) (x_store sz30 rfl rfl rfl rfl rfl Repl.auto Spl.auto) ?_
      refine sr_nil ?_
      refine aw_kp [2, 3, 10] ?_
      refine aw_seq_dr ⟨_, 5, 52, [[], [], [1], [0, 1, 2], [0, 1, 2, 3]], [.mem, .mem, .call, .eff, .light]⟩ (by kernel_rfl) rfl rfl mix ?_
      refine dr_mem0 rfl rfl (wtd_none rfl) (x_loadN ag30 sz30 rfl (cells_ext mauto Ext.auto) rfl) ?_
      refine dr_mem0 rfl rfl (wtd_none rfl) (x_loadN ag30 sz30 rfl (cells_ext mauto Ext.auto) rfl) ?_
      refine dr_callq0 rfl rfl (wtd_none rfl) (opS_F rfl rfl rfl rfl cl29 ((eright_s (entOf [a0, a1, a2, a3, a4, a5]) _))) (⟨_, rfl⟩) ?_
      rintro _ rfl
      generalize hd : decide (ERight (entOf [a0, a1, a2, a3, a4, a5])) = d1
      cases d1
      · refine dr_store0 rfl rfl (wtd_none rfl) (x_store sz30 rfl rfl rfl rfl rfl Repl.auto Spl.auto) (by first | rfl | simp [keys_append, keys_cons]) ?_
        refine dr_l (x_assign rfl) ?_
        refine dr_nil0 ?_
        refine aw_kp [2, 3] ?_
        refine aw_ret ?_
        show ∃ v H2, ResV _ _ _ _ _ _ v ∧ Sub H2 _ ∧ _
        exact ⟨_, H, resV rfl (.cons (⟨_, rfl, fun hw => rd_loadVarN ag30 sz30 hw (cells_ext mauto Ext.auto) rfl⟩) (.cons rfl .nil)), Sub.autoP, (by first | exact ⟨.inl ⟨_, (ep_ok h6 hmp).trans (if_pos (of_decide_eq_true hd)), rfl⟩, rfl⟩ | exact ⟨.inr ⟨(ep_ok h6 hmp).trans (if_neg (of_decide_eq_false hd)), entOf [a0, a1, a2, a3, a4, a5], rfl⟩, rfl⟩)⟩
      · refine dr_store0 rfl rfl (wtd_none rfl) (x_store sz30 rfl rfl rfl rfl rfl Repl.auto Spl.auto) (by first | rfl | simp [keys_append, keys_cons]) ?_
        refine dr_l (x_assign rfl) ?_
        refine dr_nil0 ?_
        refine aw_kp [2, 3] ?_
        refine aw_ret ?_
        show ∃ v H2, ResV _ _ _ _ _ _ v ∧ Sub H2 _ ∧ _
        exact ⟨_, H, resV rfl (.cons (⟨_, rfl, fun hw => rd_loadVarN ag30 sz30 hw (cells_ext mauto Ext.auto) rfl⟩) (.cons rfl .nil)), Sub.autoP, (by first | exact ⟨.inl ⟨_, (ep_ok h6 hmp).trans (if_pos (of_decide_eq_true hd)), rfl⟩, rfl⟩ | exact ⟨.inr ⟨(ep_ok h6 hmp).trans (if_neg (of_decide_eq_false hd)), entOf [a0, a1, a2, a3, a4, a5], rfl⟩, rfl⟩)⟩
set_option maxRecDepth 100000 in
set_option maxHeartbeats 2000000 in
theorem sread_s (l : List UInt8) (hl : l.length ≤ 800000) (H : SHeap) : AC Tryd.prog W0 19 [.string (bs l)] H (fun v H' => ∃ a cap E, v = .tuple #[.slice a (rdR l).1.length cap, .int .i64 (rdR l).2.1, .int .i64 (rdR l).2.2] ∧ OwnVec 6 30 (.slice a (rdR l).1.length cap) (rdR l).1.length (((rdR l).1).flatMap Ent.cells) E ∧ H' = E ++ H) := by
  refine ac_of Tryd.func19 rfl rfl rfl ?_
  refine aw_seq_region ?_
  obtain ⟨rr, hrr⟩ : ∃ rr, rr = rdR l := ⟨_, rfl⟩
  rw [← hrr]
  refine sr_as ?_
  refine sr_as ?_
  refine sr_as ?_
  refine sr_nil ?_
  refine aw_kp [0, 2, 3, 4] ?_
  refine aw_seq_region ?_
  refine sr_as ?_
  refine sr_nil ?_
  refine aw_kp [0, 2, 3, 4, 5] ?_
  refine aw_seq ?_
  refine aw_seq_region ?_
  refine sr_mv ?_
  refine sr_d rfl (wtd_none rfl) rfl (opS_call rfl rfl rfl rfl cl51 (split_s l 10 (by omega) _)) ?_
  rintro _ _ ⟨a, cap, E, rfl, V, rfl⟩
  have hmem := spl_mem_len (c := 10) (l := l)
  have hsl := spl_len (c := 10) (l := l)
  have hcl := cntB_le 10 l
  have hsV := V.slv' (W0 := W0) (xs := spl 10 l) (fun _ => rfl) rfl (Sub.refl _)
  have hleV := hsV.le
  have hcbV := hsV.capb
  refine sr_rd (x_lenSlice Tryd.underlying49 rfl) ?_
  refine sr_mv ?_
  refine sr_nil ?_
  refine aw_kp [2, 3, 4, 5, 11, 12, 13] ?_
  refine aw_block ?_
  refine aw_loop (ι := SwG) (fun s => s.k ≤ (spl 10 l).length ∧ s.acc.length ≤ 1024 ∧ rdR l = rdE s.k s.acc ((spl 10 l).drop s.k) ∧ OwnVec 6 30 s.sl s.acc.length ((s.acc).flatMap Ent.cells) s.E) (fun s => [(2, .slice none 0 0), (3, .int .i64 0), (4, .int .i64 0), (5, s.sl), (11, .slice a (spl 10 l).length cap), (12, .int .i64 (spl 10 l).length), (13, .int .i64 s.k)]) (fun s => s.E ++ (E ++ H)) (fun s => (spl 10 l).length - s.k) ⟨0, [], .slice none 0 0, []⟩ (⟨Nat.zero_le _, by simp, rfl, .nil⟩) KeepF.auto Sub.autoP ?_
  intro s hs9
  obtain ⟨k, acc, sl, EK⟩ := s
  dsimp only at hs9 ⊢
  obtain ⟨hk, hal, hgo, VK⟩ := hs9
  obtain ⟨a1, c1, rfl⟩ := VK.isSl
  rw [← hrr] at hgo
  refine aw_seq_region ?_
  refine sr_c (x_lt rfl rfl) (fun h1 => ?_) (fun h1 => ?_)
  · refine sr_nil ?_
    refine aw_kp [2, 3, 4, 5, 11, 12, 13, 14] ?_
    refine aw_seq ?_
    refine aw_true rfl ?_
    refine aw_skip ?_
    show AW _ _ _ _ _ _ _
    refine aw_seq ?_
    refine aw_block ?_
    refine aw_seq_region ?_
    obtain ⟨x, hx⟩ := get_ex (show k < (spl 10 l).length by omega)
    obtain ⟨bx, ox, hax, hcx⟩ := hsV.at_ (k) x hx
    have hxl := hmem x (List.mem_of_getElem? hx)
    refine sr_mv ?_
    refine sr_rd (x_indexAddrN (k) Tryd.underlying49 sz9 rfl hax rfl (by omega) (by omega)) ?_
    refine sr_rd (x_load ag9 rfl (Cells.mono hcx Sub.autoE)) ?_
    refine sr_as ?_
    refine sr_as ?_
    refine sr_nil ?_
    refine aw_kp [2, 3, 4, 5, 6, 7, 11, 12, 13, 14, 15, 16, 17] ?_
    refine aw_seq ?_
    refine aw_seq_region ?_
    refine sr_mv ?_
    refine sr_c (x_eqB rfl rfl) (fun h2 => ?_) (fun h2 => ?_)
    · refine sr_mv ?_
      refine sr_sk ?_
      refine sr_sk ?_
      refine sr_rd (x_pick_t rfl rfl rfl) ?_
      refine sr_nil ?_
      refine aw_kp [2, 3, 4, 5, 6, 7, 11, 12, 13, 14, 15, 16, 17, 18, 19, 20, 21, 22, 23] ?_
      refine aw_true rfl ?_
      refine aw_exit ?_
      show AW _ _ _ _ _ _ _
      refine aw_region ?_
      refine sr_rd (x_add' rfl rfl (i64w (by omega) (by omega))) ?_
      refine sr_mv ?_
      refine sr_nil ?_
      show ∃ s', _ ∧ _ ∧ _ ∧ _
      first | exact ⟨⟨k + 1, acc, _, EK⟩, ⟨by dsimp only; omega, hal, (by dsimp only; rw [← hrr, hgo, drop_at hx, rdE_skip (by first | exact .inl (by assumption) | exact .inr (hc0.1 rfl))]), VK⟩, by dsimp only; omega, KeepF.auto, Sub.autoD⟩ | exact ⟨⟨k + 1, acc ++ [e], .slice a39 (acc.length + 1) cap39, E39⟩, ⟨by dsimp only; omega, by dsimp only; rw [List.length_append, List.length_singleton]; omega, (by dsimp only; rw [← hrr, hgo, drop_at hx, rdE_ok hns hep (by omega)]), (by dsimp only; have h9 := hV39.snocS; rw [List.length_append] at h9 ⊢; exact h9)⟩, by dsimp only; omega, KeepF.auto, Sub.autoD⟩
    · refine sr_mv ?_
      refine sr_ry (x_move rfl) ?_
      refine sr_d rfl (wtd_yes rfl rfl rfl) rfl (opS_call rfl rfl rfl rfl cl52 (hasp52_s x [59] _)) ?_
      rintro _ H9 ⟨⟨c0, rfl, hc0⟩, rfl⟩
      cases c0
      · refine sr_rd (x_pick_f rfl rfl rfl) ?_
        refine sr_nil ?_
        refine aw_kp [2, 3, 4, 5, 6, 7, 11, 12, 13, 14, 15, 16, 17, 18, 19, 20, 21, 22, 23] ?_
        refine aw_false rfl ?_
        refine aw_skip ?_
        show AW _ _ _ _ _ _ _
        refine aw_seq_region ?_
        have hns : ¬ skipL x := by rintro (q | q); exact absurd q (by assumption); exact (nomatch hc0.2 q)
        refine sr_mv ?_
        refine sr_d rfl (wtd_none rfl) rfl (opS_call rfl rfl rfl rfl cl53 (eparse_s x (by omega) _)) ?_
        rintro _ H9 ⟨hep, rfl⟩
        obtain ⟨e, hep, rfl⟩ | ⟨hep, e, rfl⟩ := hep
        · refine sr_mv ?_
          refine sr_rd (x_extract rfl rfl) ?_
          refine sr_rd (x_extract rfl rfl) ?_
          refine sr_new rfl (wtd_none rfl) rfl (x_alloc zr30 rfl) ?_
          intro r6_5 hr6_5 gr6_5
          refine sr_x0 rfl (wtd_none rfl) (x_store sz30 rfl rfl rfl rfl rfl Repl.auto Spl.auto) ?_
          refine sr_as ?_
          refine sr_nil ?_
          refine aw_kp [2, 3, 4, 5, 6, 7, 8, 9, 11, 12, 13, 14, 15, 16, 17, 18, 19, 20, 21, 22, 23, 24, 25, 26, 27, 28] ?_
          refine aw_seq ?_
          refine aw_seq_region ?_
          refine sr_mv ?_
          refine sr_rd (x_not rfl) ?_
          refine sr_nil ?_
          refine aw_kp [2, 3, 4, 5, 6, 7, 8, 9, 11, 12, 13, 14, 15, 16, 17, 18, 19, 20, 21, 22, 23, 24, 25, 26, 27, 28, 29, 30] ?_
          refine aw_false rfl ?_
          refine aw_skip ?_
          show AW _ _ _ _ _ _ _
          refine aw_seq ?_
          refine aw_seq_region ?_
          refine sr_mv ?_
          refine sr_rd (x_lenSlice Tryd.underlying24 rfl) ?_
          refine sr_c (x_ge rfl rfl) (fun h3 => ?_) (fun h3 => ?_)
          · refine sr_nil ?_
            refine aw_kp [2, 3, 4, 5, 6, 7, 8, 9, 11, 12, 13, 14, 15, 16, 17, 18, 19, 20, 21, 22, 23, 24, 25, 26, 27, 28, 29, 30, 32, 33, 34] ?_
            refine aw_true rfl ?_
            refine aw_seq_region ?_
            refine sr_mv ?_
            refine sr_as ?_
            refine sr_as ?_
            refine sr_as ?_
            refine sr_nil ?_
            refine aw_kp [2, 3, 4, 5, 6, 7, 8, 9, 11, 12, 13, 14, 15, 16, 17, 18, 19, 20, 21, 22, 23, 24, 25, 26, 27, 28, 29, 30, 32, 33, 34, 35] ?_
            refine aw_ret ?_
            show ∃ v H2, ResV _ _ _ _ _ _ v ∧ Sub H2 _ ∧ _
            (rw [hgo, drop_at hx, rdE_full hns hep (by omega)]; exact ⟨_, H, resV rfl (.cons rfl (.cons rfl (.cons rfl .nil))), Sub.autoP, none, 0, [], rfl, .nil, rfl⟩)
          · refine sr_nil ?_
            refine aw_kp [2, 3, 4, 5, 6, 7, 8, 9, 11, 12, 13, 14, 15, 16, 17, 18, 19, 20, 21, 22, 23, 24, 25, 26, 27, 28, 29, 30, 32, 33, 34] ?_
            refine aw_false rfl ?_
            refine aw_skip ?_
            show AW _ _ _ _ _ _ _
            refine aw_region ?_
            refine sr_mv ?_
            refine sr_rd (x_loadN ag30 sz30 rfl (cells_ext mauto Ext.auto) rfl) ?_
            refine sr_new rfl (wtd_none rfl) rfl (x_buildSlice Tryd.underlying24 sz30 zr30 rfl rfl rfl rfl Parts.auto Fill.auto) ?_
            intro r11_2 hr11_2 gr11_2
            refine sr_d rfl (wtd_none rfl) rfl (opS_append (G := E ++ H) (N := e.cells) (m := 1) Tryd.underlying24 sz30 zr30 rfl by30 rfl rfl VK Sub.autoP (.inr ⟨_, _, rfl, (cells_ext mauto Ext.auto)⟩) (rfl) rfl (by omega) (by omega)) ?_
            rintro v39 _ ⟨E39, hV39, rfl⟩
            obtain ⟨a39, cap39, rfl⟩ := hV39.isSl
            refine sr_as ?_
            refine sr_nil ?_
            show AW _ _ _ _ _ _ _
            refine aw_region ?_
            refine sr_rd (x_add' rfl rfl (i64w (by omega) (by omega))) ?_
            refine sr_mv ?_
            refine sr_nil ?_
            show ∃ s', _ ∧ _ ∧ _ ∧ _
            first | exact ⟨⟨k + 1, acc, _, EK⟩, ⟨by dsimp only; omega, hal, (by dsimp only; rw [← hrr, hgo, drop_at hx, rdE_skip (by first | exact .inl (by assumption) | exact .inr (hc0.1 rfl))]), VK⟩, by dsimp only; omega, KeepF.auto, Sub.autoD⟩ | exact ⟨⟨k + 1, acc ++ [e], .slice a39 (acc.length + 1) cap39, E39⟩, ⟨by dsimp only; omega, by dsimp only; rw [List.length_append, List.length_singleton]; omega, (by dsimp only; rw [← hrr, hgo, drop_at hx, rdE_ok hns hep (by omega)]), (by dsimp only; have h9 := hV39.snocS; rw [List.length_append] at h9 ⊢; exact h9)⟩, by dsimp only; omega, KeepF.auto, Sub.autoD⟩
        · refine sr_mv ?_
          refine sr_rd (x_extract rfl rfl) ?_
          refine sr_rd (x_extract rfl rfl) ?_
          refine sr_new rfl (wtd_none rfl) rfl (x_alloc zr30 rfl) ?_
          intro r6_5 hr6_5 gr6_5
          refine sr_x0 rfl (wtd_none rfl) (x_store sz30 rfl rfl rfl rfl rfl Repl.auto Spl.auto) ?_
          refine sr_as ?_
          refine sr_nil ?_
          refine aw_kp [2, 3, 4, 5, 6, 7, 8, 9, 11, 12, 13, 14, 15, 16, 17, 18, 19, 20, 21, 22, 23, 24, 25, 26, 27, 28] ?_
          refine aw_seq ?_
          refine aw_seq_region ?_
          refine sr_mv ?_
          refine sr_rd (x_not rfl) ?_
          refine sr_nil ?_
          refine aw_kp [2, 3, 4, 5, 6, 7, 8, 9, 11, 12, 13, 14, 15, 16, 17, 18, 19, 20, 21, 22, 23, 24, 25, 26, 27, 28, 29, 30] ?_
          refine aw_true rfl ?_
          refine aw_seq_region ?_
          refine sr_mv ?_
          refine sr_as ?_
          refine sr_as ?_
          refine sr_as ?_
          refine sr_nil ?_
          refine aw_kp [2, 3, 4, 5, 6, 7, 8, 9, 11, 12, 13, 14, 15, 16, 17, 18, 19, 20, 21, 22, 23, 24, 25, 26, 27, 28, 29, 30, 31] ?_
          refine aw_ret ?_
          show ∃ v H2, ResV _ _ _ _ _ _ v ∧ Sub H2 _ ∧ _
          (rw [hgo, drop_at hx, rdE_bad hns hep]; exact ⟨_, H, resV rfl (.cons rfl (.cons rfl (.cons rfl .nil))), Sub.autoP, none, 0, [], rfl, .nil, rfl⟩)
      · refine sr_rd (x_pick_f rfl rfl rfl) ?_
        refine sr_nil ?_
        refine aw_kp [2, 3, 4, 5, 6, 7, 11, 12, 13, 14, 15, 16, 17, 18, 19, 20, 21, 22, 23] ?_
        refine aw_true rfl ?_
        refine aw_exit ?_
        show AW _ _ _ _ _ _ _
        refine aw_region ?_
        refine sr_rd (x_add' rfl rfl (i64w (by omega) (by omega))) ?_
        refine sr_mv ?_
        refine sr_nil ?_
        show ∃ s', _ ∧ _ ∧ _ ∧ _
        first | exact ⟨⟨k + 1, acc, _, EK⟩, ⟨by dsimp only; omega, hal, (by dsimp only; rw [← hrr, hgo, drop_at hx, rdE_skip (by first | exact .inl (by assumption) | exact .inr (hc0.1 rfl))]), VK⟩, by dsimp only; omega, KeepF.auto, Sub.autoD⟩ | exact ⟨⟨k + 1, acc ++ [e], .slice a39 (acc.length + 1) cap39, E39⟩, ⟨by dsimp only; omega, by dsimp only; rw [List.length_append, List.length_singleton]; omega, (by dsimp only; rw [← hrr, hgo, drop_at hx, rdE_ok hns hep (by omega)]), (by dsimp only; have h9 := hV39.snocS; rw [List.length_append] at h9 ⊢; exact h9)⟩, by dsimp only; omega, KeepF.auto, Sub.autoD⟩
  · refine sr_nil ?_
    refine aw_kp [2, 3, 4, 5, 11, 12, 13, 14] ?_
    refine aw_seq ?_
    refine aw_false rfl ?_
    refine aw_exit ?_
    show AW _ _ _ _ _ _ _
    refine aw_seq_region ?_
    refine sr_mv ?_
    refine sr_as ?_
    refine sr_as ?_
    refine sr_as ?_
    refine sr_nil ?_
    refine aw_kp [2, 3, 4] ?_
    refine aw_ret ?_
    show ∃ v H2, ResV _ _ _ _ _ _ v ∧ Sub H2 _ ∧ _
    (rw [hgo, List.drop_eq_nil_of_le (by omega)]; exact ⟨_, EK ++ H, resV rfl (.cons rfl (.cons rfl (.cons rfl .nil))), Sub.autoP, a1, c1, EK, rfl, VK, rfl⟩)
set_option maxRecDepth 100000 in
set_option maxHeartbeats 400000 in
theorem awake27_s (H : SHeap) : AC Tryd.prog W0 18 [] H (fun v H' => v = .bool true ∧ H' = H) := by
  refine ac_of Tryd.func18 rfl rfl rfl ?_
  refine aw_seq_region ?_
  refine sr_as ?_
  refine sr_nil ?_
  refine aw_kp [0] ?_
  refine aw_seq_region ?_
  refine sr_d rfl (wtd_none rfl) rfl (opS_call rfl rfl rfl rfl cl19 (sread_s [59, 120, 10, 53, 32, 57, 32, 49, 48, 32, 50, 32, 49, 32, 48] (by decide) _)) ?_
  rintro _ _ ⟨a, cap, E, rfl, V, rfl⟩
  rw [show rdR [59, 120, 10, 53, 32, 57, 32, 49, 48, 32, 50, 32, 49, 32, 48] = ([(⟨5, 9, 10, 2, 1, 0⟩ : Ent)], 0, 0) from by kernel_rfl] at V ⊢
  obtain ⟨bx, ox, hax, hcx⟩ := (V.slv' (W0 := W0) (xs := [(⟨5, 9, 10, 2, 1, 0⟩ : Ent)]) (fun _ => rfl) rfl (Sub.refl _)).at_ 0 _ rfl
  refine sr_mv ?_
  refine sr_rd (x_extract rfl rfl) ?_
  refine sr_rd (x_extract rfl rfl) ?_
  refine sr_rd (x_extract rfl rfl) ?_
  refine sr_as ?_
  refine sr_as ?_
  refine sr_as ?_
  refine sr_nil ?_
  refine aw_kp [0, 1, 2, 3] ?_
  refine aw_seq_region ?_
  refine sr_mv ?_
  refine sr_c (x_eq rfl rfl) (fun h1 => ?_) (fun h1 => absurd (by rfl) h1)
  refine sr_mv ?_
  refine sr_ry (x_move rfl) ?_
  refine sr_cy (x_eq rfl rfl) (fun h2 => ?_) (fun h2 => absurd (by rfl) h2)
  refine sr_rd (x_pick_t rfl rfl rfl) ?_
  refine sr_mv ?_
  refine sr_ry (x_move rfl) ?_
  refine sr_ry (x_lenSlice Tryd.underlying24 rfl) ?_
  refine sr_cy (x_eq rfl rfl) (fun h3 => ?_) (fun h3 => absurd (by rfl) h3)
  refine sr_rd (x_pick_t rfl rfl rfl) ?_
  refine sr_mv ?_
  refine sr_ry (x_move rfl) ?_
  refine sr_ry (x_indexAddrN 0 Tryd.underlying24 sz30 rfl hax rfl (by omega) (by decide)) ?_
  refine sr_ry (x_loadN ag30 sz30 rfl (Cells.mono hcx Sub.autoE) rfl) ?_
  refine sr_ry (x_build zr30 rfl fl30 Parts.auto Fill.auto) ?_
  refine sr_cy (x_eqStruct Tryd.underlying30 ks30 rfl rfl rfl rfl rfl) (fun h4 => ?_) (fun h4 => absurd (by rfl) h4)
  refine sr_rd (x_pick_t rfl rfl rfl) ?_
  refine sr_as ?_
  refine sr_nil ?_
  refine aw_kp [0] ?_
  refine aw_ret ?_
  show ∃ v H2, ResV _ _ _ _ _ _ v ∧ Sub H2 _ ∧ _
  exact ⟨_, H, resV rfl (.cons rfl .nil), Sub.autoP, ⟨rfl, rfl⟩⟩
end
end Go.Proofs.YtbcajgkaepihfaaDoor
