/- strings.Builder. -/
import Derived.Test.YtbcajgkaepihfaaDoorSdb
import Derived.Test.YtbcajgkaepihfaaDoorSymBld2
namespace Go.Proofs.YtbcajgkaepihfaaDoor
open Go.Proofs.YtbcajgkaepihfaaDoor.Sym
open Go.RowKit (Below)
set_option linter.unusedVariables false
set_option linter.unusedSimpArgs false
theorem ag23 : aggOf Tryd.prog 23 = some false := by kernel_rfl
theorem ag98 : aggOf Tryd.prog 98 = some false := by kernel_rfl
theorem cells5 : Tryd.prog.cellsOf 5 = 1 := by kernel_rfl
theorem cl78 : Callable Tryd.prog 78 := ⟨Tryd.f78, Tryd.func78, by kernel_rfl, by kernel_rfl⟩
theorem exf90 : Extern.find Tryd.f90 = some Extern.AbiNoEscape.same := by kernel_rfl
theorem exn90 : Extern.findNext Tryd.f90 = none := by kernel_rfl
theorem fd100_0 : fldOf Tryd.prog 100 0 = some (0, 98, 1) := by kernel_rfl
theorem fd100_1 : fldOf Tryd.prog 100 1 = some (1, 23, 1) := by kernel_rfl
theorem liesB : liesAt Tryd.prog Tryd.prog.depth 100 ((bldC (.pointer none) (.slice none 0 0)).length / Tryd.prog.cellsOf 100) 0 100 1 = true := by kernel_rfl
theorem mix : Tryd.prog.follows .mixedOrders = true := by kernel_rfl
theorem sz100 : szOf Tryd.prog 100 = some 2 := by kernel_rfl
theorem sz23 : szOf Tryd.prog 23 = some 1 := by kernel_rfl
theorem sz98 : szOf Tryd.prog 98 = some 1 := by kernel_rfl
section
variable {W0 : World}
set_option maxRecDepth 100000 in
set_option maxHeartbeats 400000 in
theorem copy0_s (b : Nat) (sl : Value) (G : SHeap) : AC Tryd.prog W0 78 [selfP b] ((b, .cells (bldC (.pointer none) (sl)).toArray 100 (0, 0)) :: G) (fun _ H' => H' = (b, .cells (bldC (selfP b) (sl)).toArray 100 (0, 0)) :: G) := by
  refine ac_of Tryd.func78 rfl rfl rfl ?_
  refine aw_seq_region ?_
  refine sr_mv ?_
  refine sr_rd (x_nilCheck rfl) ?_
  refine sr_rd (x_fieldAddr fd100_0 rfl) ?_
  refine sr_rd (x_load ag98 rfl (cells_ext mauto Ext.auto)) ?_
  refine sr_rd (x_eqnil Tryd.underlying98 rfl rfl) ?_
  refine sr_nil ?_
  refine aw_kp [0, 6] ?_
  refine aw_true rfl ?_
  refine aw_region ?_
  refine sr_mv ?_
  refine sr_mv ?_
  refine sr_rd (x_toUnsafe (cs := bldC (.pointer none) sl) Tryd.underlying98 Tryd.underlying134 sz100 (by decide) rfl mauto (show 0 < 2 by decide)) ?_
  refine sr_rd (x_extern (fn := Tryd.f90) (v := selfP b) rfl rfl rfl Tryd.func90 (by kernel_rfl) (by kernel_rfl) exn90 exf90 (fun _ => rd_noEscape)) ?_
  refine sr_rd (x_fromUnsafe (cs := bldC (.pointer none) sl) Tryd.underlying134 Tryd.underlying98 sz100 rfl mauto liesB) ?_
  refine sr_rd (x_nilCheck rfl) ?_
  refine sr_rd (x_fieldAddr fd100_0 rfl) ?_
  refine sr_x0 rfl (wtd_none rfl) (x_store sz98 rfl rfl rfl rfl rfl Repl.auto Spl.auto) ?_
  refine sr_nil ?_
  show ∃ v H2, ResV _ _ _ _ _ _ v ∧ Sub H2 _ ∧ _
  exact ⟨_, ((b, .cells (bldC (selfP b) (sl)).toArray 100 (0, 0)) :: G), resV rfl .nil, Sub.autoP, rfl⟩
set_option maxRecDepth 100000 in
set_option maxHeartbeats 400000 in
theorem copy1_s (b : Nat) (sl : Value) (G : SHeap) : AC Tryd.prog W0 78 [selfP b] ((b, .cells (bldC (selfP b) (sl)).toArray 100 (0, 0)) :: G) (fun _ H' => H' = (b, .cells (bldC (selfP b) (sl)).toArray 100 (0, 0)) :: G) := by
  refine ac_of Tryd.func78 rfl rfl rfl ?_
  refine aw_seq_region ?_
  refine sr_mv ?_
  refine sr_rd (x_nilCheck rfl) ?_
  refine sr_rd (x_fieldAddr fd100_0 rfl) ?_
  refine sr_rd (x_load ag98 rfl (cells_ext mauto Ext.auto)) ?_
  refine sr_rd (x_eqnil Tryd.underlying98 rfl rfl) ?_
  refine sr_nil ?_
  refine aw_kp [0, 6] ?_
  refine aw_false rfl ?_
  refine aw_seq_region ?_
  refine sr_mv ?_
  refine sr_rd (x_nilCheck rfl) ?_
  refine sr_rd (x_fieldAddr fd100_0 rfl) ?_
  refine sr_rd (x_load ag98 rfl (cells_ext mauto Ext.auto)) ?_
  refine sr_mv ?_
  refine sr_rd (x_nePtrSame Tryd.underlying98 sz100 (by decide) rfl rfl) ?_
  refine sr_nil ?_
  refine aw_kp [19] ?_
  refine aw_false rfl ?_
  refine aw_skip ?_
  show ∃ v H2, ResV _ _ _ _ _ _ v ∧ Sub H2 _ ∧ _
  exact ⟨_, ((b, .cells (bldC (selfP b) (sl)).toArray 100 (0, 0)) :: G), resV rfl .nil, Sub.autoP, rfl⟩
theorem copy_s (b : Nat) (a sl : Value) (G : SHeap) (ha : a = .pointer none ∨ a = selfP b) : AC Tryd.prog W0 78 [selfP b] ((b, .cells (bldC (a) (sl)).toArray 100 (0, 0)) :: G) (fun _ H' => H' = (b, .cells (bldC (selfP b) (sl)).toArray 100 (0, 0)) :: G) := by
  rcases ha with rfl | rfl
  · exact copy0_s b sl G
  · exact copy1_s b sl G
set_option maxRecDepth 100000 in
set_option maxHeartbeats 400000 in
theorem write_s (b : Nat) (a sl : Value) (l m : List UInt8) (E G : SHeap) (ha : a = .pointer none ∨ a = selfP b) (V : OwnVec 1 5 sl l.length (byC l) E) (hb : l.length + m.length ≤ 100000000) : AC Tryd.prog W0 59 [selfP b, .string (bs m)] (E ++ ((b, .cells (bldC (a) (sl)).toArray 100 (0, 0)) :: G)) (fun _ H' => ∃ a2 c2 E2, OwnVec 1 5 (.slice a2 (l ++ m).length c2) (l ++ m).length (byC (l ++ m)) E2 ∧ H' = E2 ++ ((b, .cells (bldC (selfP b) (.slice a2 (l ++ m).length c2)).toArray 100 (0, 0)) :: G)) := by
  refine ac_of Tryd.func59 rfl rfl rfl ?_
  refine aw_seq_region ?_
  refine sr_as ?_
  refine sr_as ?_
  refine sr_nil ?_
  refine aw_kp [0, 1, 4, 5] ?_
  refine aw_seq_region ?_
  refine sr_mv ?_
  refine sr_d rfl (wtd_none rfl) rfl (opS_call rfl rfl rfl rfl cl78 (AC.sub Sub.autoP (copy_s b a sl (E ++ G) ha))) ?_
  rintro _ _ rfl
  refine sr_nil ?_
  refine aw_kp [0, 1, 4, 5] ?_
  refine aw_seq_region ?_
  refine sr_mv ?_
  refine sr_mv ?_
  refine sr_rd (x_nilCheck rfl) ?_
  refine sr_rd (x_fieldAddr fd100_1 rfl) ?_
  refine sr_rd (x_load ag23 rfl (cells_ext mauto Ext.auto)) ?_
  refine sr_mv ?_
  refine sr_d rfl (wtd_none rfl) rfl (opS_appendS (G := (b, .cells (bldC (selfP b) (sl)).toArray 100 (0, 0)) :: G) (l := m) Tryd.underlying23 Tryd.underlying9 sz5 zr5 by5 rfl rfl V Sub.autoP (by omega)) ?_
  rintro v14 _ ⟨E14, hV14, rfl⟩
  obtain ⟨a14, cap14, rfl⟩ := hV14.isSl
  refine sr_rd (x_nilCheck rfl) ?_
  refine sr_rd (x_fieldAddr fd100_1 rfl) ?_
  refine sr_x0 rfl (wtd_none rfl) (x_store sz23 rfl rfl rfl rfl rfl Repl.auto Spl.auto) ?_
  refine sr_nil ?_
  refine aw_kp [1, 4, 5] ?_
  refine aw_seq_region ?_
  refine sr_mv ?_
  refine sr_rd (x_lenB Tryd.underlying9 rfl) ?_
  refine sr_as ?_
  refine sr_as ?_
  refine sr_nil ?_
  refine aw_kp [4, 5] ?_
  refine aw_ret ?_
  show ∃ v H2, ResV _ _ _ _ _ _ v ∧ Sub H2 _ ∧ _
  exact ⟨_, (E14 ++ ((b, .cells (bldC (selfP b) (.slice a14 (l.length + m.length) cap14)).toArray 100 (0, 0)) :: G)), resV rfl (.cons rfl (.cons rfl .nil)), Sub.autoP, ⟨a14, cap14, E14, by rw [byC_app, List.length_append]; exact hV14, by rw [List.length_append]⟩⟩
set_option maxRecDepth 100000 in
set_option maxHeartbeats 400000 in
theorem string_s (b : Nat) (a : Value) (sa : Option Addr) (cap : Nat) (l : List UInt8) (E G : SHeap) (V : OwnVec 1 5 (.slice sa l.length cap) l.length (byC l) E) (h0 : l.length = 0 → Value.slice sa l.length cap = .slice none 0 0) (hb : l.length ≤ 100000000) : AC Tryd.prog W0 60 [selfP b] (E ++ ((b, .cells (bldC (a) (.slice sa l.length cap)).toArray 100 (0, 0)) :: G)) (fun v H' => v = .string (bs l) ∧ H' = (b, .cells (bldC (a) (.slice sa l.length cap)).toArray 100 (0, 0)) :: G) := by
  refine ac_of Tryd.func60 rfl rfl rfl ?_
  refine aw_seq_region ?_
  refine sr_as ?_
  refine sr_nil ?_
  refine aw_kp [0, 2] ?_
  refine aw_seq_dr ⟨_, 12, 14, [[], [0], [0, 1], [0, 1, 2], [0, 1, 2, 3], [], [5], [5, 6], [5, 6, 7], [5, 6, 7, 8], [0, 1, 2, 3, 4, 5, 6, 7, 8, 9], [0, 1, 2, 3, 4, 5, 6, 7, 8, 9, 10]], [.light, .light, .light, .mem, .light, .light, .light, .light, .mem, .light, .eff, .light]⟩ (by kernel_rfl) rfl rfl mix ?_
  refine dr_l (x_move rfl) ?_
  refine dr_l (x_nilCheck rfl) ?_
  refine dr_l (x_fieldAddr fd100_1 rfl) ?_
  refine dr_mem0 rfl rfl (wtd_none rfl) (x_load ag23 rfl (cells_ext mauto Ext.auto)) ?_
  refine dr_l (x_sliceData V h0 rfl) ?_
  refine dr_l (x_move rfl) ?_
  refine dr_l (x_nilCheck rfl) ?_
  refine dr_l (x_fieldAddr fd100_1 rfl) ?_
  refine dr_mem0 rfl rfl (wtd_none rfl) (x_load ag23 rfl (cells_ext mauto Ext.auto)) ?_
  refine dr_l (x_lenSlice Tryd.underlying23 rfl) ?_
  refine dr_effE rfl rfl (wtd_none rfl) (opSF_unsafeStr (G := (b, .cells (bldC (a) (.slice sa l.length cap)).toArray 100 (0, 0)) :: G) Tryd.underlying120 cells5 V h0 rfl rfl Sub.autoP (by omega)) (unsafeStr_fresh (E := E) Sub.autoP) ?_
  rintro _ _ ⟨rfl, rfl⟩
  refine dr_l (x_assign rfl) ?_
  refine dr_nil0 ?_
  refine aw_kp [2] ?_
  refine aw_ret ?_
  show ∃ v H2, ResV _ _ _ _ _ _ v ∧ Sub H2 _ ∧ _
  exact ⟨_, ((b, .cells (bldC (a) (.slice sa l.length cap)).toArray 100 (0, 0)) :: G), resV rfl (.cons rfl .nil), Sub.autoP, ⟨rfl, rfl⟩⟩
end
end Go.Proofs.YtbcajgkaepihfaaDoor
