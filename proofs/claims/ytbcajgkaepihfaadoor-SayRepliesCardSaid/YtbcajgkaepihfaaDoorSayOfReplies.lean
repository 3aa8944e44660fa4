/- Any reply's line is told; no condition but that the listed variables lie as the program's text lays them. -/
import Derived.Test.YtbcajgkaepihfaaDoorSde
import Derived.Test.YtbcajgkaepihfaaDoorSymLaid
import Derived.Test.YtbcajgkaepihfaaDoorRows
import Derived.Test.YtbcajgkaepihfaaDoorCards
import Derived.Test.YtbcajgkaepihfaaDoorTie
import Derived.Test.YtbcajgkaepihfaaDoorCut
import Derived.SevenTiedAt
namespace Go.Proofs.YtbcajgkaepihfaaDoor
open Go.Proofs.YtbcajgkaepihfaaDoor.Sym
open Go.RowKit (Below)
set_option linter.unusedVariables false
set_option linter.unusedSimpArgs false
structure Rep where
  err : Int
  id : Int
  state : Int
  start : Int
  fin : Int
  plan : Int
  a : Int
  b : Int
  c : Int
@[reducible] def Rep.cells (j : Rep) : List Value := [.int .i64 j.err, .int .i64 j.id, .int .i64 j.state, .int .i64 j.start, .int .i64 j.fin, .int .i64 j.plan, .int .i64 j.a, .int .i64 j.b, .int .i64 j.c]
@[reducible] def Rep.v (j : Rep) : Value := .agg (Rep.cells j).toArray
abbrev In64 (x : Int) : Prop := -9223372036854775808 ≤ x ∧ x ≤ 9223372036854775807
def RepOk (r : Rep) : Prop := In64 r.err ∧ In64 r.id ∧ In64 r.state ∧ In64 r.start ∧ In64 r.fin ∧ In64 r.plan ∧ In64 r.a ∧ In64 r.b ∧ In64 r.c
def Rep.Wf (j : Rep) : Prop := IntKind.min .i64 ≤ j.err ∧ j.err ≤ IntKind.max .i64 ∧ IntKind.min .i64 ≤ j.id ∧ j.id ≤ IntKind.max .i64 ∧ IntKind.min .i64 ≤ j.state ∧ j.state ≤ IntKind.max .i64 ∧ IntKind.min .i64 ≤ j.start ∧ j.start ≤ IntKind.max .i64 ∧ IntKind.min .i64 ≤ j.fin ∧ j.fin ≤ IntKind.max .i64 ∧ IntKind.min .i64 ≤ j.plan ∧ j.plan ≤ IntKind.max .i64 ∧ IntKind.min .i64 ≤ j.a ∧ j.a ≤ IntKind.max .i64 ∧ IntKind.min .i64 ≤ j.b ∧ j.b ≤ IntKind.max .i64 ∧ IntKind.min .i64 ≤ j.c ∧ j.c ≤ IntKind.max .i64
theorem Rep.Wf.ok {r : Rep} (h : r.Wf) : RepOk r := by
  unfold Rep.Wf at h
  rw [i64_min, i64_max] at h
  unfold RepOk In64; omega
@[reducible] def tbl (r : Rep) : List (List UInt8 × Int) := [([105, 100], r.id), ([115, 116, 97, 116, 101], r.state), ([115, 116, 97, 114, 116], r.start), ([101, 110, 100], r.fin), ([112, 108, 97, 110], r.plan), ([97], r.a), ([98], r.b), ([99], r.c)]
@[reducible] def pC (p : List UInt8 × Int) : List Value := [.string (bs p.1), .int .i64 p.2]
def repE (r : Rep) : List UInt8 := [101, 114, 114, 32] ++ numB r.err
def repP (l : List (List UInt8 × Int)) : List UInt8 := l.flatMap fun p => if p.2 = 0 then [] else [32] ++ p.1 ++ [32] ++ numB p.2
def repB (r : Rep) : List UInt8 := repE r ++ repP (tbl r)
theorem tbl_ok {r : Rep} (h : RepOk r) : ∀ p ∈ tbl r, In64 p.2 ∧ p.1.length ≤ 5 := by
  obtain ⟨_, h2, h3, h4, h5, h6, h7, h8, h9⟩ := h
  intro p hp
  simp only [List.mem_cons, List.mem_nil_iff, or_false] at hp
  rcases hp with rfl | rfl | rfl | rfl | rfl | rfl | rfl | rfl
  · exact ⟨h2, by simp⟩
  · exact ⟨h3, by simp⟩
  · exact ⟨h4, by simp⟩
  · exact ⟨h5, by simp⟩
  · exact ⟨h6, by simp⟩
  · exact ⟨h7, by simp⟩
  · exact ⟨h8, by simp⟩
  · exact ⟨h9, by simp⟩
theorem repE_len {r : Rep} (h : RepOk r) : (repE r).length ≤ 24 := by
  have := numB_len h.1.1 h.1.2
  unfold repE; rw [List.length_append]; simp; omega
theorem repP_len : ∀ {l : List (List UInt8 × Int)}, (∀ p ∈ l, In64 p.2 ∧ p.1.length ≤ 5) → (repP l).length ≤ 30 * l.length
  | [], _ => by simp [repP]
  | p :: l, h => by
    have h1 := h p List.mem_cons_self
    have h2 := numB_len h1.1.1 h1.1.2
    have h3 := repP_len fun q hq => h q (List.mem_cons_of_mem _ hq)
    unfold repP at h3 ⊢
    rw [List.flatMap_cons, List.length_append, List.length_cons]
    split
    · simp only [List.length_nil]; omega
    · simp only [List.length_append, List.length_cons, List.length_nil]; omega
theorem repP_yes {l : List (List UInt8 × Int)} {k : Nat} {p : List UInt8 × Int} (hp : l[k]? = some p) (h : p.2 ≠ 0) : repP (l.take (k + 1)) = repP (l.take k) ++ ([32] ++ p.1 ++ [32] ++ numB p.2) := by
  rw [takeS hp]; unfold repP; rw [List.flatMap_append]; simp [h]
theorem repP_no {l : List (List UInt8 × Int)} {k : Nat} {p : List UInt8 × Int} (hp : l[k]? = some p) (h : p.2 = 0) : repP (l.take (k + 1)) = repP (l.take k) := by
  rw [takeS hp]; unfold repP; rw [List.flatMap_append]; simp [h]
theorem ag106 : aggOf Tryd.prog 106 = some true := by kernel_rfl
theorem ag25 : aggOf Tryd.prog 25 = some false := by kernel_rfl
theorem ag48 : aggOf Tryd.prog 48 = some true := by kernel_rfl
theorem cells2 : Tryd.prog.cellsOf 2 = 1 := by kernel_rfl
theorem cells25 : Tryd.prog.cellsOf 25 = 1 := by kernel_rfl
theorem cells3 : Tryd.prog.cellsOf 3 = 1 := by kernel_rfl
theorem cells48 : Tryd.prog.cellsOf 48 = 9 := by kernel_rfl
theorem cl25 : Callable Tryd.prog 25 := ⟨Tryd.f25, Tryd.func25, by kernel_rfl, by kernel_rfl⟩
theorem cl32 : Callable Tryd.prog 32 := ⟨Tryd.f32, Tryd.func32, by kernel_rfl, by kernel_rfl⟩
theorem fd106_0 : fldOf Tryd.prog 106 0 = some (0, 9, 1) := by kernel_rfl
theorem fd106_1 : fldOf Tryd.prog 106 1 = some (1, 2, 1) := by kernel_rfl
theorem fd48_0 : fldOf Tryd.prog 48 0 = some (0, 25, 1) := by kernel_rfl
theorem fd48_1 : fldOf Tryd.prog 48 1 = some (1, 3, 1) := by kernel_rfl
theorem fd48_2 : fldOf Tryd.prog 48 2 = some (2, 3, 1) := by kernel_rfl
theorem fd48_3 : fldOf Tryd.prog 48 3 = some (3, 2, 1) := by kernel_rfl
theorem fd48_4 : fldOf Tryd.prog 48 4 = some (4, 2, 1) := by kernel_rfl
theorem fd48_5 : fldOf Tryd.prog 48 5 = some (5, 2, 1) := by kernel_rfl
theorem fd48_6 : fldOf Tryd.prog 48 6 = some (6, 3, 1) := by kernel_rfl
theorem fd48_7 : fldOf Tryd.prog 48 7 = some (7, 3, 1) := by kernel_rfl
theorem fd48_8 : fldOf Tryd.prog 48 8 = some (8, 3, 1) := by kernel_rfl
theorem fl106 : flds Tryd.prog 106 = some [(0, 1), (1, 1)] := by kernel_rfl
theorem sz106 : szOf Tryd.prog 106 = some 2 := by kernel_rfl
theorem sz48 : szOf Tryd.prog 48 = some 9 := by kernel_rfl
theorem zr106 : zeroOf Tryd.prog 106 = some (.agg #[.string .empty, .int .i64 0]) := by kernel_rfl
section
variable {W0 : World}
set_option maxRecDepth 100000 in
theorem read_Rep {H : Type} {enc : TypeId × Value → H} {w : World} {base : Nat} {spare : Nat → Bool} {held : Bool} {fuel : Nat} {cs : List Value} {x : DataW H × List MemPlace} (h : DataW.trod enc Tryd.prog w base spare held fuel 48 cs = some x) : ∃ j : Rep, cs = j.cells ∧ j.Wf := by
  obtain ⟨hlen, n, hf⟩ := read_struct Tryd.underlying48 h
  rw [cells48] at hlen
  obtain ⟨a0, e0, l0, u0⟩ := read_int Tryd.underlying25 cells25 (hf 0 _ rfl)
  obtain ⟨a1, e1, l1, u1⟩ := read_int Tryd.underlying3 cells3 (hf 1 _ rfl)
  obtain ⟨a2, e2, l2, u2⟩ := read_int Tryd.underlying3 cells3 (hf 2 _ rfl)
  obtain ⟨a3, e3, l3, u3⟩ := read_int Tryd.underlying2 cells2 (hf 3 _ rfl)
  obtain ⟨a4, e4, l4, u4⟩ := read_int Tryd.underlying2 cells2 (hf 4 _ rfl)
  obtain ⟨a5, e5, l5, u5⟩ := read_int Tryd.underlying2 cells2 (hf 5 _ rfl)
  obtain ⟨a6, e6, l6, u6⟩ := read_int Tryd.underlying3 cells3 (hf 6 _ rfl)
  obtain ⟨a7, e7, l7, u7⟩ := read_int Tryd.underlying3 cells3 (hf 7 _ rfl)
  obtain ⟨a8, e8, l8, u8⟩ := read_int Tryd.underlying3 cells3 (hf 8 _ rfl)
  refine ⟨⟨a0, a1, a2, a3, a4, a5, a6, a7, a8⟩, ?_, ⟨l0, u0, l1, u1, l2, u2, l3, u3, l4, u4, l5, u5, l6, u6, l7, u7, l8, u8⟩⟩
  apply List.ext_getElem?
  intro i
  match i with
  | 0 => exact e0
  | 1 => exact e1
  | 2 => exact e2
  | 3 => exact e3
  | 4 => exact e4
  | 5 => exact e5
  | 6 => exact e6
  | 7 => exact e7
  | 8 => exact e8
  | i + 9 => rw [List.getElem?_eq_none (by omega), List.getElem?_eq_none (by simp)]
set_option maxRecDepth 100000 in
theorem open_Rep {H : Type} {enc : TypeId × Value → H} {w : World} {base b0 : Nat} {spare : Nat → Bool} {held : Bool} {v : Value} {d : DataW H} {p : List MemPlace} {r : Reach} (hv : Value.okWide Tryd.prog w r b0 48 v) (h : DataW.Trod enc Tryd.prog w base spare held 48 v d p) : ∃ j : Rep, v = j.v ∧ j.Wf := by
  obtain ⟨cs, rfl, _⟩ := Go.WideShapes.okWide_struct Tryd.underlying48 hv
  obtain ⟨fuel, hf⟩ := h
  obtain ⟨j, h1, h2⟩ := read_Rep hf
  refine ⟨j, ?_, h2⟩
  have : cs = j.cells.toArray := by apply Array.toList_inj.1; exact h1
  rw [this]
end

section
variable {W0 : World}
set_option maxRecDepth 100000 in
set_option maxHeartbeats 2000000 in
theorem reply_s (r : Rep) (hw : RepOk r) (H : SHeap) : AC Tryd.prog W0 32 [r.v] H (fun v H' => v = .string (bs (repB r)) ∧ H' = H) := by
  have hel := numB_len hw.1.1 hw.1.2
  refine ac_of Tryd.func32 rfl rfl rfl ?_
  refine aw_seq_region ?_
  refine sr_new rfl (wtd_none rfl) rfl (x_box rfl rfl) ?_
  intro r0_0 hr0_0 gr0_0
  refine sr_as ?_
  refine sr_nil ?_
  refine aw_kp [1, 2] ?_
  refine aw_seq_region ?_
  refine sr_rd (x_fieldAddr fd48_0 rfl) ?_
  refine sr_rd (x_load ag25 rfl (cells_ext mauto Ext.auto)) ?_
  refine sr_d rfl (wtd_none rfl) rfl (opS_call rfl rfl rfl rfl cl27 (number_s r.err hw.1 _)) ?_
  rintro _ H9 ⟨rfl, rfl⟩
  refine sr_rd (x_catB rfl rfl (by simp only [List.length_append, List.length_cons, List.length_nil]; omega)) ?_
  refine sr_as ?_
  refine sr_nil ?_
  refine aw_kp [1, 2, 3] ?_
  refine aw_seq ?_
  refine aw_seq_region ?_
  refine sr_rd (x_fieldAddr fd48_1 rfl) ?_
  refine sr_rd (x_load ag3 rfl (cells_ext mauto Ext.auto)) ?_
  refine sr_rd (x_build zr106 rfl fl106 Parts.auto Fill.auto) ?_
  refine sr_rd (x_fieldAddr fd48_2 rfl) ?_
  refine sr_rd (x_load ag3 rfl (cells_ext mauto Ext.auto)) ?_
  refine sr_rd (x_build zr106 rfl fl106 Parts.auto Fill.auto) ?_
  refine sr_rd (x_fieldAddr fd48_3 rfl) ?_
  refine sr_rd (x_load ag2 rfl (cells_ext mauto Ext.auto)) ?_
  refine sr_rd (x_build zr106 rfl fl106 Parts.auto Fill.auto) ?_
  refine sr_rd (x_fieldAddr fd48_4 rfl) ?_
  refine sr_rd (x_load ag2 rfl (cells_ext mauto Ext.auto)) ?_
  refine sr_rd (x_build zr106 rfl fl106 Parts.auto Fill.auto) ?_
  refine sr_rd (x_fieldAddr fd48_5 rfl) ?_
  refine sr_rd (x_load ag2 rfl (cells_ext mauto Ext.auto)) ?_
  refine sr_rd (x_build zr106 rfl fl106 Parts.auto Fill.auto) ?_
  refine sr_rd (x_fieldAddr fd48_6 rfl) ?_
  refine sr_rd (x_load ag3 rfl (cells_ext mauto Ext.auto)) ?_
  refine sr_rd (x_build zr106 rfl fl106 Parts.auto Fill.auto) ?_
  refine sr_rd (x_fieldAddr fd48_7 rfl) ?_
  refine sr_rd (x_load ag3 rfl (cells_ext mauto Ext.auto)) ?_
  refine sr_rd (x_build zr106 rfl fl106 Parts.auto Fill.auto) ?_
  refine sr_rd (x_fieldAddr fd48_8 rfl) ?_
  refine sr_rd (x_load ag3 rfl (cells_ext mauto Ext.auto)) ?_
  refine sr_rd (x_build zr106 rfl fl106 Parts.auto Fill.auto) ?_
  refine sr_new rfl (wtd_none rfl) rfl (x_buildSlice Tryd.underlying107 sz106 zr106 rfl rfl rfl rfl Parts.auto Fill.auto) ?_
  intro r2_24 hr2_24 gr2_24
  refine sr_rd (x_lenSlice Tryd.underlying107 rfl) ?_
  refine sr_mv ?_
  refine sr_nil ?_
  refine aw_kp [2, 3, 34, 35, 36] ?_
  refine aw_block ?_
  refine aw_keep (keep_cons (t := 2) rfl (keep_cons (t := 3) (v := .string (bs (repE r ++ repP ((tbl r).take 0)))) (congrArg (fun l => some (Value.string (bs l))) (by simp [repP, repE])) (keep_cons (t := 34) rfl (keep_cons (t := 35) rfl (keep_cons (t := 36) rfl keep_nil))))) ?_
  refine aw_loop (ι := Nat) (fun k => k ≤ 8) (fun k => [(2, .string (bs [])), (3, .string (bs (repE r ++ repP ((tbl r).take k)))), (34, .slice (some ⟨r2_24, 0, none⟩) 8 8), (35, .int .i64 8), (36, .int .i64 k)]) (fun _ => (r2_24, .cells ((tbl r).flatMap pC ++ []).toArray 106 (0, 0)) :: H) (fun k => 8 - k) 0 (Nat.zero_le _) KeepF.auto Sub.autoP ?_
  intro k hk
  refine aw_seq_region ?_
  refine sr_c (x_lt rfl rfl) (fun h1 => ?_) (fun h1 => ?_)
  · refine sr_nil ?_
    refine aw_kp [2, 3, 34, 35, 36, 37] ?_
    refine aw_seq ?_
    refine aw_true rfl ?_
    refine aw_skip ?_
    show AW _ _ _ _ _ _ _
    refine aw_seq ?_
    refine aw_block ?_
    refine aw_seq_region ?_
    obtain ⟨p, hp⟩ := get_ex (show k < (tbl r).length from (by have : (tbl r).length = 8 := rfl; omega))
    have hpm := tbl_ok hw p (List.mem_of_getElem? hp)
    have hpl := numB_len hpm.1.1 hpm.1.2
    have hpn := hpm.2
    have hrl := repP_len (l := (tbl r).take k) (fun q hq => tbl_ok hw q (List.mem_of_mem_take hq))
    rw [List.length_take] at hrl
    have hre := repE_len hw
    refine sr_rd (x_indexAddrN k Tryd.underlying107 sz106 rfl rfl rfl (by omega) (by omega)) ?_
    refine sr_rd (x_loadN ag106 sz106 rfl (cells_flat0 (n := 2) (enc := pC) (fun _ => rfl) (xs := tbl r) (post := []) (show (r2_24, Obj.cells ((tbl r).flatMap pC ++ []).toArray 106 (0, 0)) ∈ _ from mauto) hp) rfl) ?_
    refine sr_new rfl (wtd_none rfl) rfl (x_alloc zr106 rfl) ?_
    intro r4_2 hr4_2 gr4_2
    refine sr_x0 rfl (wtd_none rfl) (x_store sz106 rfl rfl rfl rfl rfl Repl.auto Spl.auto) ?_
    refine sr_nil ?_
    refine aw_kp [2, 3, 5, 34, 35, 36, 37, 38, 39] ?_
    refine aw_seq_region ?_
    refine sr_rd (x_fieldAddr fd106_1 rfl) ?_
    refine sr_rd (x_load ag2 rfl (cells_ext mauto Ext.auto)) ?_
    refine sr_c (x_ne rfl rfl) (fun h2 => ?_) (fun h2 => ?_)
    · refine sr_nil ?_
      refine aw_kp [2, 3, 5, 34, 35, 36, 37, 38, 39, 40, 41, 42] ?_
      refine aw_true rfl ?_
      refine aw_dr ⟨_, 11, 55, [[], [], [1], [1, 2], [1, 2, 3], [], [5], [5, 6], [1, 2, 3, 4, 5, 6, 7], [0, 1, 2, 3, 4, 5, 6, 7, 8], [0, 1, 2, 3, 4, 5, 6, 7, 8, 9]], [.light, .light, .mem, .light, .light, .light, .mem, .call, .light, .light, .light]⟩ (by kernel_rfl) rfl rfl mix ?_
      refine dr_l (x_move rfl) ?_
      refine dr_l (x_fieldAddr fd106_0 rfl) ?_
      refine dr_mem0 rfl rfl (wtd_none rfl) (x_load ag9 rfl (cells_ext mauto Ext.auto)) ?_
      refine dr_l (x_catB rfl rfl (by simp only [List.length_append, List.length_cons, List.length_nil]; omega)) ?_
      refine dr_l (x_catB rfl rfl (by simp only [List.length_append, List.length_cons, List.length_nil]; omega)) ?_
      refine dr_l (x_fieldAddr fd106_1 rfl) ?_
      refine dr_mem0 rfl rfl (wtd_none rfl) (x_load ag2 rfl (cells_ext mauto Ext.auto)) ?_
      refine dr_callq0 rfl rfl (wtd_none rfl) (opS_F rfl rfl rfl rfl cl27 ((number_s p.2 hpm.1 _))) (⟨_, rfl⟩) ?_
      rintro _ rfl
      refine dr_l (x_catB rfl rfl (by simp only [List.length_append, List.length_cons, List.length_nil]; omega)) ?_
      refine dr_l (x_catB rfl rfl (by simp only [List.length_append, List.length_cons, List.length_nil]; omega)) ?_
      refine dr_l (x_assign rfl) ?_
      refine dr_nil0 ?_
      show AW _ _ _ _ _ _ _
      refine aw_region ?_
      refine sr_rd (x_add' rfl rfl (i64w (by omega) (by omega))) ?_
      refine sr_mv ?_
      refine sr_nil ?_
      show ∃ s', _ ∧ _ ∧ _ ∧ _
      first | exact ⟨k + 1, by omega, by omega, (by rw [repP_yes hp (by assumption)]; simp only [← List.append_assoc]; exact KeepF.auto), Sub.autoD⟩ | exact ⟨k + 1, by omega, by omega, (by rw [repP_no hp (by omega)]; exact KeepF.auto), Sub.autoD⟩
    · refine sr_nil ?_
      refine aw_kp [2, 3, 5, 34, 35, 36, 37, 38, 39, 40, 41, 42] ?_
      refine aw_false rfl ?_
      refine aw_skip ?_
      show AW _ _ _ _ _ _ _
      refine aw_region ?_
      refine sr_rd (x_add' rfl rfl (i64w (by omega) (by omega))) ?_
      refine sr_mv ?_
      refine sr_nil ?_
      show ∃ s', _ ∧ _ ∧ _ ∧ _
      first | exact ⟨k + 1, by omega, by omega, (by rw [repP_yes hp (by assumption)]; simp only [← List.append_assoc]; exact KeepF.auto), Sub.autoD⟩ | exact ⟨k + 1, by omega, by omega, (by rw [repP_no hp (by omega)]; exact KeepF.auto), Sub.autoD⟩
  · refine sr_nil ?_
    refine aw_kp [2, 3, 34, 35, 36, 37] ?_
    refine aw_seq ?_
    refine aw_false rfl ?_
    refine aw_exit ?_
    show AW _ _ _ _ _ _ _
    refine aw_seq_region ?_
    refine sr_mv ?_
    refine sr_as ?_
    refine sr_nil ?_
    refine aw_kp [2] ?_
    refine aw_ret ?_
    show ∃ v H2, ResV _ _ _ _ _ _ v ∧ Sub H2 _ ∧ _
    exact ⟨_, H, resV rfl (.cons rfl .nil), Sub.autoP, ⟨congrArg (fun l => Value.string (bs l)) (by unfold repB; rw [List.take_of_length_le (by have : (tbl r).length = 8 := rfl; omega)]), rfl⟩⟩
set_option maxRecDepth 100000 in
set_option maxHeartbeats 2000000 in
theorem sayReplies_s (r : Rep) (hw : RepOk r) : AC Tryd.prog W0 8 [r.v] [] (fun v _ => v = .bool true) := by
  have hel := numB_len hw.1.1 hw.1.2
  refine ac_of Tryd.func8 rfl rfl rfl ?_
  refine aw_seq_region ?_
  refine sr_new rfl (wtd_none rfl) rfl (x_box rfl rfl) ?_
  intro r0_0 hr0_0 gr0_0
  refine sr_as ?_
  refine sr_nil ?_
  refine aw_kp [1, 2] ?_
  refine aw_seq_region ?_
  refine sr_new rfl (wtd_none rfl) rfl (x_buildSlice Tryd.underlying49 sz9 zr9 rfl rfl rfl rfl Parts.auto Fill.auto) ?_
  intro r1_0 hr1_0 gr1_0
  refine sr_as ?_
  refine sr_nil ?_
  refine aw_kp [1, 2, 3] ?_
  refine aw_seq_region ?_
  refine sr_rd (x_fieldAddr fd48_1 rfl) ?_
  refine sr_rd (x_load ag3 rfl (cells_ext mauto Ext.auto)) ?_
  refine sr_rd (x_fieldAddr fd48_2 rfl) ?_
  refine sr_rd (x_load ag3 rfl (cells_ext mauto Ext.auto)) ?_
  refine sr_rd (x_fieldAddr fd48_3 rfl) ?_
  refine sr_rd (x_load ag2 rfl (cells_ext mauto Ext.auto)) ?_
  refine sr_rd (x_fieldAddr fd48_4 rfl) ?_
  refine sr_rd (x_load ag2 rfl (cells_ext mauto Ext.auto)) ?_
  refine sr_rd (x_fieldAddr fd48_5 rfl) ?_
  refine sr_rd (x_load ag2 rfl (cells_ext mauto Ext.auto)) ?_
  refine sr_rd (x_fieldAddr fd48_6 rfl) ?_
  refine sr_rd (x_load ag3 rfl (cells_ext mauto Ext.auto)) ?_
  refine sr_rd (x_fieldAddr fd48_7 rfl) ?_
  refine sr_rd (x_load ag3 rfl (cells_ext mauto Ext.auto)) ?_
  refine sr_rd (x_fieldAddr fd48_8 rfl) ?_
  refine sr_rd (x_load ag3 rfl (cells_ext mauto Ext.auto)) ?_
  refine sr_new rfl (wtd_none rfl) rfl (x_buildSlice Tryd.underlying50 sz2 zr2 rfl rfl rfl rfl Parts.auto Fill.auto) ?_
  intro r2_16 hr2_16 gr2_16
  refine sr_as ?_
  refine sr_nil ?_
  refine aw_kp [1, 2, 3, 4] ?_
  refine aw_seq_region ?_
  refine sr_rd (x_fieldAddr fd48_0 rfl) ?_
  refine sr_rd (x_load ag25 rfl (cells_ext mauto Ext.auto)) ?_
  refine sr_d rfl (wtd_none rfl) rfl (opS_call rfl rfl rfl rfl cl28 (lnumber_s r.err hw.1 _)) ?_
  rintro _ H9 ⟨rfl, rfl⟩
  refine sr_rd (x_catB rfl rfl (by simp only [List.length_append, List.length_cons, List.length_nil]; omega)) ?_
  refine sr_as ?_
  refine sr_nil ?_
  refine aw_kp [1, 2, 3, 4, 5] ?_
  refine aw_seq ?_
  refine aw_seq_region ?_
  refine sr_as ?_
  refine sr_nil ?_
  refine aw_kp [1, 2, 3, 4, 5, 6] ?_
  refine aw_block ?_
  refine aw_keep (keep_cons (t := 1) rfl (keep_cons (t := 2) rfl (keep_cons (t := 3) rfl (keep_cons (t := 4) rfl (keep_cons (t := 5) (v := .string (bs (repE r ++ repP ((tbl r).take 0)))) (congrArg (fun l => some (Value.string (bs l))) (by simp [repP, repE])) (keep_cons (t := 6) rfl keep_nil)))))) ?_
  refine aw_loop (ι := Nat) (fun k => k ≤ 8) (fun k => [(1, .pointer (some ⟨r0_0, 0, none⟩)), (2, .bool false), (3, .slice (some ⟨r1_0, 0, none⟩) 8 8), (4, .slice (some ⟨r2_16, 0, none⟩) 8 8), (5, .string (bs (repE r ++ repP ((tbl r).take k)))), (6, .int .i64 k)]) (fun _ => (r2_16, .cells ((tbl r).map fun p => Value.int .i64 p.2).toArray 2 (0, 0)) :: (r1_0, .cells ((tbl r).map fun p => Value.string (bs p.1)).toArray 9 (0, 0)) :: (r0_0, .cells r.cells.toArray 48 (0, 0)) :: []) (fun k => 8 - k) 0 (Nat.zero_le _) KeepF.auto Sub.autoP ?_
  intro k hk
  refine aw_seq ?_
  refine aw_seq_region ?_
  refine sr_mv ?_
  refine sr_c (x_lt rfl rfl) (fun h1 => ?_) (fun h1 => ?_)
  · refine sr_nil ?_
    refine aw_kp [1, 2, 3, 4, 5, 6, 29, 30] ?_
    refine aw_true rfl ?_
    refine aw_skip ?_
    show AW _ _ _ _ _ _ _
    refine aw_seq ?_
    refine aw_block ?_
    refine aw_seq_region ?_
    obtain ⟨p, hp⟩ := get_ex (show k < (tbl r).length from (by have : (tbl r).length = 8 := rfl; omega))
    have hpm := tbl_ok hw p (List.mem_of_getElem? hp)
    have hpl := numB_len hpm.1.1 hpm.1.2
    have hpn := hpm.2
    have hrl := repP_len (l := (tbl r).take k) (fun q hq => tbl_ok hw q (List.mem_of_mem_take hq))
    rw [List.length_take] at hrl
    have hre := repE_len hw
    refine sr_mv ?_
    refine sr_mv ?_
    refine sr_rd (x_indexAddrN k Tryd.underlying50 sz2 rfl rfl rfl (by omega) (by omega)) ?_
    refine sr_rd (x_load ag2 rfl (cells_get (cells_ext (vs := (tbl r).map fun p => Value.int .i64 p.2) (n := 8) mauto Ext.auto) _ (by rw [Nat.mul_one]; simp only [List.getElem?_map, hp]; rfl))) ?_
    refine sr_c (x_ne rfl rfl) (fun h2 => ?_) (fun h2 => ?_)
    · refine sr_nil ?_
      refine aw_kp [1, 2, 3, 4, 5, 6, 29, 30, 33, 34, 35, 36, 37] ?_
      refine aw_true rfl ?_
      refine aw_dr ⟨_, 15, 61, [[], [0], [], [], [2, 3], [2, 3, 4], [0, 1, 2, 3, 4, 5], [0, 1, 2, 3, 4, 5, 6], [], [], [8, 9], [8, 9, 10], [8, 9, 10, 11], [0, 1, 2, 3, 4, 5, 6, 7, 8, 9, 10, 11, 12], [0, 1, 2, 3, 4, 5, 6, 7, 8, 9, 10, 11, 12, 13]], [.light, .light, .light, .light, .light, .mem, .light, .light, .light, .light, .light, .mem, .call, .light, .light]⟩ (by kernel_rfl) rfl rfl mix ?_
      refine dr_l (x_move rfl) ?_
      refine dr_l (x_catB rfl rfl (by simp only [List.length_append, List.length_cons, List.length_nil]; omega)) ?_
      refine dr_l (x_move rfl) ?_
      refine dr_l (x_move rfl) ?_
      refine dr_l (x_indexAddrN k Tryd.underlying49 sz9 rfl rfl rfl (by omega) (by omega)) ?_
      refine dr_mem0 rfl rfl (wtd_none rfl) (x_load ag9 rfl (cells_get (cells_ext (vs := (tbl r).map fun p => Value.string (bs p.1)) (n := 8) mauto Ext.auto) _ (by rw [Nat.mul_one]; simp only [List.getElem?_map, hp]; rfl))) ?_
      refine dr_l (x_catB rfl rfl (by simp only [List.length_append, List.length_cons, List.length_nil]; omega)) ?_
      refine dr_l (x_catB rfl rfl (by simp only [List.length_append, List.length_cons, List.length_nil]; omega)) ?_
      refine dr_l (x_move rfl) ?_
      refine dr_l (x_move rfl) ?_
      refine dr_l (x_indexAddrN k Tryd.underlying50 sz2 rfl rfl rfl (by omega) (by omega)) ?_
      refine dr_mem0 rfl rfl (wtd_none rfl) (x_load ag2 rfl (cells_get (cells_ext (vs := (tbl r).map fun p => Value.int .i64 p.2) (n := 8) mauto Ext.auto) _ (by rw [Nat.mul_one]; simp only [List.getElem?_map, hp]; rfl))) ?_
      refine dr_callq0 rfl rfl (wtd_none rfl) (opS_F rfl rfl rfl rfl cl28 ((lnumber_s p.2 hpm.1 _))) (⟨_, rfl⟩) ?_
      rintro _ rfl
      refine dr_l (x_catB rfl rfl (by simp only [List.length_append, List.length_cons, List.length_nil]; omega)) ?_
      refine dr_l (x_assign rfl) ?_
      refine dr_nil0 ?_
      show AW _ _ _ _ _ _ _
      refine aw_region ?_
      refine sr_mv ?_
      refine sr_rd (x_add' rfl rfl (i64w (by omega) (by omega))) ?_
      refine sr_as ?_
      refine sr_nil ?_
      show ∃ s', _ ∧ _ ∧ _ ∧ _
      first | exact ⟨k + 1, by omega, by omega, (by rw [repP_yes hp (by assumption)]; simp only [← List.append_assoc]; exact KeepF.auto), Sub.autoD⟩ | exact ⟨k + 1, by omega, by omega, (by rw [repP_no hp (by omega)]; exact KeepF.auto), Sub.autoD⟩
    · refine sr_nil ?_
      refine aw_kp [1, 2, 3, 4, 5, 6, 29, 30, 33, 34, 35, 36, 37] ?_
      refine aw_false rfl ?_
      refine aw_skip ?_
      show AW _ _ _ _ _ _ _
      refine aw_region ?_
      refine sr_mv ?_
      refine sr_rd (x_add' rfl rfl (i64w (by omega) (by omega))) ?_
      refine sr_as ?_
      refine sr_nil ?_
      show ∃ s', _ ∧ _ ∧ _ ∧ _
      first | exact ⟨k + 1, by omega, by omega, (by rw [repP_yes hp (by assumption)]; simp only [← List.append_assoc]; exact KeepF.auto), Sub.autoD⟩ | exact ⟨k + 1, by omega, by omega, (by rw [repP_no hp (by omega)]; exact KeepF.auto), Sub.autoD⟩
  · refine sr_nil ?_
    refine aw_kp [1, 2, 3, 4, 5, 6, 29, 30] ?_
    refine aw_false rfl ?_
    refine aw_exit ?_
    show AW _ _ _ _ _ _ _
    refine aw_seq_region ?_
    rw [List.take_of_length_le (show (tbl r).length ≤ k by have : (tbl r).length = 8 := rfl; omega)]
    refine sr_rd (x_loadN ag48 sz48 rfl (cells_ext mauto Ext.auto) rfl) ?_
    refine sr_d rfl (wtd_none rfl) rfl (opS_call rfl rfl rfl rfl cl32 (reply_s r hw _)) ?_
    rintro _ H9 ⟨rfl, rfl⟩
    refine sr_mv ?_
    refine sr_c (x_eqB rfl rfl) (fun h3 => ?_) (fun h3 => absurd (by rfl) h3)
    refine sr_mv ?_
    refine sr_rd (x_pick_t rfl rfl rfl) ?_
    refine sr_mv ?_
    refine sr_d rfl (wtd_yes rfl rfl rfl) rfl (opS_call rfl rfl rfl rfl cl25 (awake26_s _)) ?_
    rintro _ H9 ⟨rfl, rfl⟩
    refine sr_rd (x_pick_t rfl rfl rfl) ?_
    refine sr_as ?_
    refine sr_nil ?_
    refine aw_kp [2] ?_
    refine aw_ret ?_
    show ∃ v H2, ResV _ _ _ _ _ _ v ∧ Sub H2 _ ∧ _
    exact ⟨_, [], resV rfl (.cons rfl .nil), (Sub.nil _), rfl⟩
end
namespace SayRepliesRow
open Go.ChangeShapes Go.WideShapes Go.ChangeAt Go.RowKit
theorem own : ownKnob Tryd.prog.godebug = none := by kernel_rfl
theorem laidOut : laidOutB Tryd.prog = true := by kernel_rfl
def laid : List (String × DataW Unit) := [("unicode/utf8.acceptRanges", Rows.laid_unicode_utf8_acceptRanges), ("unicode/utf8.first", Rows.laid_unicode_utf8_first)]
set_option maxRecDepth 100000 in
theorem lifted (os : Os) (started : os.Started) (H : Type) (enc : TypeId × Value → H) :
    ReturnsInHanded {} Tryd.checked os 8 .any (fun w args => (Rows.sayRepliesSpec.pre enc Tryd.prog Tryd.f8 [] false w args ∧ laidMetH Tryd.prog laid w) ∧ sizedMet enc Tryd.prog Tryd.f8 (OpenSpec.ofChange Rows.sayRepliesSpec) false w args)
      (Rows.sayRepliesSpec.post enc Tryd.prog Tryd.f8 false true false false) := by
  refine law_lifted_laid (C := Tryd.checked) (tb := 4) (laid := laid) own started (by kernel_rfl) Tryd.func8
    (ChangeSpec.witness_shaped (enc := enc) (C := Tryd.checked) (os := os) (X := fun w _ => laidMetH Tryd.prog laid w) false (World.laidAll Tryd.prog os laid) #[.agg #[.int .i64 0, .int .i64 0, .int .i64 0, .int .i64 0, .int .i64 0, .int .i64 0, .int .i64 0, .int .i64 0, .int .i64 0]] 8 (World.laidAll_os _ _ _)
      (World.shaped_of_ZipB (by kernel_rfl) (by kernel_rfl)) (by kernel_rfl) (by kernel_rfl) (by kernel_rfl)
      (by rw [MakeChecks.laidMetH_plain _ _ _ (by kernel_rfl)]; exact laidMet_laidAll _ (by kernel_rfl) (by kernel_rfl)))
    (fun w => MakeChecks.laidMetH_plain _ _ _ (by kernel_rfl)) rfl Tryd.underlying4 rfl laidOut (by kernel_rfl) ?_ ?_
  · intro ds h
    match ds, h with
    | [a0], _ => rfl
  · intro W base args ds ps hval hA hlt hsz
    have hA' : DataW.TrodAll enc Tryd.prog W 0 (fun _ => true) true [48] args ds ps := hA
    clear hA
    obtain ⟨v0, vs0, d0, ds0, p0, q0, rfl, rfl, rfl, h0, r0⟩ := trodAll_cons hA'
    obtain ⟨rfl, rfl, rfl⟩ := trodAll_nil r0
    obtain ⟨r, rfl, hr⟩ := open_Rep (hval 0 48 v0 rfl rfl) h0
    exact sayReplies_s r hr.ok
theorem joined : joinedFacts Tryd.prog 8 Tryd.f8 Rows.sayRepliesSpec Rows.sayRepliesRow = true := by
  unfold joinedFacts
  rw [cutMay, cutLif, cutMk]
  kernel_rfl
theorem over : Rows.sayRepliesRow.holds Tryd.pinned (OpenSpec.ofChange Rows.sayRepliesSpec) :=
  OpenClaim.holds_of_wide 8 Tryd.f8 rfl rfl rfl rfl rfl rfl rfl ⟨rfl, rfl, rfl, rfl, rfl⟩ rfl rfl rfl rfl rfl (by kernel_rfl) Tryd.func8 joined
    (of_decide_eq_true (by kernel_rfl)) (by unfold Func.isWrapper; first | (rw [if_pos (by decide +kernel)]; kernel_rfl) | (rw [if_neg (by decide +kernel)]; exact ⟨rfl, rfl⟩))
    (fun os started H enc _ => lifted os started H enc)
theorem proved : Rows.SayRepliesCardSaid :=
  Claim7.holds_tied_plain_at .later [] [.data, .pinned] true (true, "426c9bee184f4b528ab0760080dc1cc7cd819b0490f5c9691bd34e83eb6dee88") false over (fun _ h => by cases h) (by kernel_rfl) (fun _ h => by cases h) sayReplies_row_tie rfl ⟨rfl, rfl⟩ (by kernel_rfl) rfl
    (fun f fn hf hfn => by
      obtain rfl : f = 8 := Option.some.inj ((show Tryd.prog.funcNamed "berthage/berthagelaw26.SayReplies" = some 8 by kernel_rfl).symm.trans hf) |>.symm
      obtain rfl : fn = Tryd.f8 := (Option.some.inj (Tryd.func8.symm.trans hfn)).symm
      exact ⟨by kernel_rfl, fun j t ht => by
        have ht' : (#[48] : Array TypeId)[j]? = some t := ht
        have hm : t ∈ [48] := by simpa using Array.mem_of_getElem? ht'
        have hall : ([48].all fun u => !Tryd.prog.wantsStandIn u) = true := by kernel_rfl
        exact (show Tryd.prog.wantsStandIn t = false by simpa using List.all_eq_true.1 hall t hm)⟩)
    (by kernel_rfl)
#print axioms proved
end SayRepliesRow
end Go.Proofs.YtbcajgkaepihfaaDoor
