/- A graph that nobody made has no edges; no condition. -/
import Derived.Test.YtonpnkekcipmlaaDpd
import Derived.Test.YtonpnkekcipmlaaCut
import Derived.Test.YtonpnkekcipmlaaRows
namespace Go.Proofs.Ytonpnkekcipmlaa
open Go.Proofs.Ytonpnkekcipmlaa.Sym
open Go.RowKit (Below)
set_option linter.unusedVariables false
set_option linter.unusedSimpArgs false
theorem cells3 : Try.prog.cellsOf 3 = 1 := by kernel_rfl
theorem cells46 : Try.prog.cellsOf 46 = 3 := by kernel_rfl
theorem cl21 : Callable Try.prog 21 := ⟨Try.f21, Try.func21, by kernel_rfl, by kernel_rfl⟩
theorem cl23 : Callable Try.prog 23 := ⟨Try.f23, Try.func23, by kernel_rfl, by kernel_rfl⟩
theorem cl25 : Callable Try.prog 25 := ⟨Try.f25, Try.func25, by kernel_rfl, by kernel_rfl⟩
theorem cl26 : Callable Try.prog 26 := ⟨Try.f26, Try.func26, by kernel_rfl, by kernel_rfl⟩
def Sym.DEdge.Wf (j : DEdge) : Prop := IntKind.min .i64 ≤ j.job ∧ j.job ≤ IntKind.max .i64 ∧ IntKind.min .i64 ≤ j.for_ ∧ j.for_ ≤ IntKind.max .i64 ∧ IntKind.min .i64 ≤ j.how ∧ j.how ≤ IntKind.max .i64
set_option maxRecDepth 100000 in
theorem read_DEdge {H : Type} {enc : TypeId × Value → H} {w : World} {base : Nat} {spare : Nat → Bool} {held : Bool} {fuel : Nat} {cs : List Value} {x : DataW H × List MemPlace} (h : DataW.trod enc Try.prog w base spare held fuel 46 cs = some x) : ∃ j : DEdge, cs = j.cells ∧ j.Wf := by
  obtain ⟨hlen, n, hf⟩ := read_struct Try.underlying46 h
  rw [cells46] at hlen
  obtain ⟨a0, e0, l0, u0⟩ := read_int Try.underlying3 cells3 (hf 0 _ rfl)
  obtain ⟨a1, e1, l1, u1⟩ := read_int Try.underlying3 cells3 (hf 1 _ rfl)
  obtain ⟨a2, e2, l2, u2⟩ := read_int Try.underlying3 cells3 (hf 2 _ rfl)
  refine ⟨⟨a0, a1, a2⟩, ?_, ⟨l0, u0, l1, u1, l2, u2⟩⟩
  apply List.ext_getElem?
  intro i
  match i with
  | 0 => exact e0
  | 1 => exact e1
  | 2 => exact e2
  | i + 3 => rw [List.getElem?_eq_none (by omega), List.getElem?_eq_none (by simp)]
set_option maxRecDepth 100000 in
theorem open_DEdge {H : Type} {enc : TypeId × Value → H} {w : World} {base b0 : Nat} {spare : Nat → Bool} {held : Bool} {v : Value} {d : DataW H} {p : List MemPlace} {r : Reach} (hv : Value.okWide Try.prog w r b0 46 v) (h : DataW.Trod enc Try.prog w base spare held 46 v d p) : ∃ j : DEdge, v = j.v ∧ j.Wf := by
  obtain ⟨cs, rfl, _⟩ := Go.WideShapes.okWide_struct Try.underlying46 hv
  obtain ⟨fuel, hf⟩ := h
  obtain ⟨j, h1, h2⟩ := read_DEdge hf
  refine ⟨j, ?_, h2⟩
  have : cs = j.cells.toArray := by apply Array.toList_inj.1; exact h1
  rw [this]
theorem lay_one {X : List Int} {id : Int} {Ls : List (List Int)} (h : Tms [id] X) (k : LayR [] X Ls) : Ls.length = 1 := by
  obtain rfl : X = [id] := h.uniq ⟨by simp, fun t => Iff.rfl⟩
  cases k with
  | cons hne k =>
    have h0 : thnL [] [id] = [] := rfl
    rw [h0] at k
    cases k with
    | nil => rfl
    | cons hne => simp at hne

section
variable {W0 : World}
set_option maxRecDepth 100000 in
set_option maxHeartbeats 400000 in
theorem gaddN_s (e : DEdge) (H : SHeap) : AC Try.prog W0 14 [.pointer none, DEdge.v e] H (fun v H' => v = .int .i64 8 ∧ H' = H) := by
  refine ac_of Try.func14 rfl rfl rfl ?_
  refine aw_seq_region ?_
  refine sr_new rfl (wtd_none rfl) rfl (x_box rfl rfl) ?_
  intro r0_0 hr0_0 gr0_0
  refine sr_as ?_
  refine sr_nil ?_
  refine aw_kp [0, 3, 4] ?_
  refine aw_seq ?_
  refine aw_block ?_
  refine aw_seq_region ?_
  refine sr_mv ?_
  refine sr_d rfl (wtd_none rfl) rfl (opS_call rfl rfl rfl rfl cl29 (gnoneN_s _)) ?_
  rintro _ H9 ⟨rfl, rfl⟩
  refine sr_as ?_
  refine sr_nil ?_
  refine aw_kp [0, 3, 4, 5] ?_
  refine aw_true rfl ?_
  refine aw_seq_region ?_
  refine sr_as ?_
  refine sr_nil ?_
  refine aw_kp [0, 3, 4] ?_
  refine aw_ret ?_
  show ∃ v H2, ResV _ _ _ _ _ _ v ∧ Sub H2 _ ∧ _
  exact ⟨_, H, resV rfl (.cons rfl .nil), Sub.autoP, ⟨rfl, rfl⟩⟩
set_option maxRecDepth 100000 in
set_option maxHeartbeats 400000 in
theorem gaddF_s (p : Nat) (sl : Value) (e : DEdge) (H : SHeap) (hc : Cells W0 H p 0 [sl, .bool false]) : AC Try.prog W0 14 [.pointer (some ⟨p, 0, none⟩), DEdge.v e] H (fun v H' => v = .int .i64 8 ∧ H' = H) := by
  refine ac_of Try.func14 rfl rfl rfl ?_
  refine aw_seq_region ?_
  refine sr_new rfl (wtd_none rfl) rfl (x_box rfl rfl) ?_
  intro r0_0 hr0_0 gr0_0
  refine sr_as ?_
  refine sr_nil ?_
  refine aw_kp [0, 3, 4] ?_
  refine aw_seq ?_
  refine aw_block ?_
  refine aw_seq_region ?_
  refine sr_mv ?_
  refine sr_d rfl (wtd_none rfl) rfl (opS_call rfl rfl rfl rfl cl29 (gnoneF_s p _ _ (Cells.mono hc Sub.autoR))) ?_
  rintro _ H9 ⟨rfl, rfl⟩
  refine sr_as ?_
  refine sr_nil ?_
  refine aw_kp [0, 3, 4, 5] ?_
  refine aw_true rfl ?_
  refine aw_seq_region ?_
  refine sr_as ?_
  refine sr_nil ?_
  refine aw_kp [0, 3, 4] ?_
  refine aw_ret ?_
  show ∃ v H2, ResV _ _ _ _ _ _ v ∧ Sub H2 _ ∧ _
  exact ⟨_, H, resV rfl (.cons rfl .nil), Sub.autoP, ⟨rfl, rfl⟩⟩
set_option maxRecDepth 100000 in
set_option maxHeartbeats 400000 in
theorem greadyN_s (id : Int) (H : SHeap) : AC Try.prog W0 25 [.pointer none, .int .i64 id, .slice none 0 0] H (fun v H' => v = .int .i64 1 ∧ H' = H) := by
  refine ac_of Try.func25 rfl rfl rfl ?_
  refine aw_seq_region ?_
  refine sr_as ?_
  refine sr_nil ?_
  refine aw_kp [0, 1, 2, 6] ?_
  refine aw_seq_region ?_
  refine sr_as ?_
  refine sr_nil ?_
  refine aw_kp [0, 1, 2, 6, 7] ?_
  refine aw_seq ?_
  refine aw_seq_region ?_
  refine sr_mv ?_
  refine sr_d rfl (wtd_none rfl) rfl (opS_call rfl rfl rfl rfl cl15 (gedgesN_s _)) ?_
  rintro _ H ⟨rfl, rfl⟩
  refine sr_rd (x_lenSlice Try.underlying39 rfl) ?_
  refine sr_mv ?_
  refine sr_nil ?_
  refine aw_kp [1, 2, 6, 7, 11, 12, 13] ?_
  refine aw_block ?_
  refine aw_loop (ι := Unit) (fun _ => True) (fun _ => [(7, .int .i64 1), (12, .int .i64 0), (13, .int .i64 0)]) (fun _ => H) (fun _ => 0) () (trivial) KeepF.auto Sub.autoP ?_
  intro _ _
  refine aw_seq_region ?_
  refine sr_c (x_lt rfl rfl) (fun h1 => absurd h1 (by first | omega | decide)) (fun h1 => ?_)
  refine sr_nil ?_
  refine aw_kp [7, 12, 13, 14] ?_
  refine aw_seq ?_
  refine aw_false rfl ?_
  refine aw_exit ?_
  show AW _ _ _ _ _ _ _
  refine aw_seq_region ?_
  refine sr_mv ?_
  refine sr_as ?_
  refine sr_nil ?_
  refine aw_kp [6] ?_
  refine aw_ret ?_
  show ∃ v H2, ResV _ _ _ _ _ _ v ∧ Sub H2 _ ∧ _
  exact ⟨_, H, resV rfl (.cons rfl .nil), (by repeat (first | exact Sub.refl _ | apply Sub.drop)), ⟨rfl, rfl⟩⟩
set_option maxRecDepth 100000 in
set_option maxHeartbeats 400000 in
theorem gdoomN_s (H : SHeap) : AC Try.prog W0 26 [.pointer none, .slice none 0 0] H (fun v H' => v = .slice none 0 0 ∧ H' = H) := by
  refine ac_of Try.func26 rfl rfl rfl ?_
  refine aw_seq_region ?_
  refine sr_as ?_
  refine sr_nil ?_
  refine aw_kp [0, 1, 4] ?_
  refine aw_seq_region ?_
  refine sr_as ?_
  refine sr_nil ?_
  refine aw_kp [0, 1, 4, 5] ?_
  refine aw_seq ?_
  refine aw_seq_region ?_
  refine sr_as ?_
  refine sr_nil ?_
  refine aw_kp [0, 1, 4, 5, 6] ?_
  refine aw_block ?_
  refine aw_loop (ι := Bool) (fun _ => True) (fun s => [(0, .pointer none), (5, .slice none 0 0), (6, .bool s)]) (fun _ => H) (fun s => if s = true then 1 else 0) true (trivial) KeepF.auto Sub.autoP ?_
  intro s _
  cases s
  · refine aw_seq ?_
    refine aw_seq_region ?_
    refine sr_mv ?_
    refine sr_nil ?_
    refine aw_kp [0, 5, 6, 10] ?_
    refine aw_false rfl ?_
    refine aw_exit ?_
    show AW _ _ _ _ _ _ _
    refine aw_seq_region ?_
    refine sr_mv ?_
    refine sr_d rfl (wtd_none rfl) rfl (opS_call rfl rfl rfl rfl cl34 (mV_s none 0 0 [] [] H .nil rfl (by omega))) ?_
    rintro _ _ ⟨W9, E9, ⟨hp9, hs9⟩, rfl, V9, rfl⟩
    obtain rfl := own_none V9
    rw [List.nil_append]
    refine sr_nil ?_
    refine aw_kp [5] ?_
    refine aw_seq_region ?_
    refine sr_mv ?_
    refine sr_as ?_
    refine sr_nil ?_
    refine aw_kp [4] ?_
    refine aw_ret ?_
    show ∃ v H2, ResV _ _ _ _ _ _ v ∧ Sub H2 _ ∧ _
    exact ⟨_, H, resV rfl (.cons rfl .nil), (by repeat (first | exact Sub.refl _ | apply Sub.drop)), ⟨rfl, rfl⟩⟩
  · refine aw_seq ?_
    refine aw_seq_region ?_
    refine sr_mv ?_
    refine sr_nil ?_
    refine aw_kp [0, 5, 6, 10] ?_
    refine aw_true rfl ?_
    refine aw_skip ?_
    show AW _ _ _ _ _ _ _
    refine aw_block ?_
    refine aw_seq_region ?_
    refine sr_as ?_
    refine sr_nil ?_
    refine aw_kp [0, 5, 6, 10] ?_
    refine aw_seq_region ?_
    refine sr_mv ?_
    refine sr_d rfl (wtd_none rfl) rfl (opS_call rfl rfl rfl rfl cl15 (gedgesN_s _)) ?_
    rintro _ H ⟨rfl, rfl⟩
    refine sr_rd (x_lenSlice Try.underlying39 rfl) ?_
    refine sr_mv ?_
    refine sr_nil ?_
    refine aw_kp [0, 5, 6, 10, 11, 12, 13, 14] ?_
    refine aw_block ?_
    refine aw_loop (ι := Unit) (fun _ => True) (fun _ => [(0, .pointer none), (5, .slice none 0 0), (6, .bool false), (13, .int .i64 0), (14, .int .i64 0)]) (fun _ => H) (fun _ => 0) () (trivial) KeepF.auto Sub.autoP ?_
    intro _ _
    refine aw_seq_region ?_
    refine sr_c (x_lt rfl rfl) (fun h1 => absurd h1 (by first | omega | decide)) (fun h1 => ?_)
    refine sr_nil ?_
    refine aw_kp [0, 5, 6, 13, 14, 15] ?_
    refine aw_seq ?_
    refine aw_false rfl ?_
    refine aw_exit ?_
    show ∃ s', _ ∧ _ ∧ _ ∧ _
    exact ⟨false, trivial, by decide, KeepF.auto, Sub.autoP⟩
set_option maxRecDepth 100000 in
set_option maxHeartbeats 4000000 in
theorem depNobody_ok (e : DEdge) (id : Int) : AC Try.prog W0 6 [DEdge.v e, .int .i64 id] [] (fun v _ => v = .bool true) := by
  refine ac_of Try.func6 rfl rfl rfl ?_
  refine aw_seq_region ?_
  refine sr_new rfl (wtd_none rfl) rfl (x_box rfl rfl) ?_
  intro r0_0 hr0_0 gr0_0
  refine sr_as ?_
  refine sr_nil ?_
  refine aw_kp [1, 2, 4] ?_
  refine aw_seq_region ?_
  refine sr_as ?_
  refine sr_nil ?_
  refine aw_kp [1, 2, 4, 5] ?_
  refine aw_seq_region ?_
  refine sr_new rfl (wtd_none rfl) rfl (x_alloc zr62 rfl) ?_
  intro r2_0 hr2_0 gr2_0
  refine sr_nil ?_
  refine aw_kp [1, 2, 4, 5, 6] ?_
  refine aw_seq_region ?_
  refine sr_mv ?_
  refine sr_new rfl (wtd_none rfl) rfl (x_buildSlice Try.underlying50 sz3 zr3 rfl rfl rfl rfl Parts.auto Fill.auto) ?_
  intro r3_1 hr3_1 gr3_1
  refine sr_d rfl (wtd_none rfl) rfl (opS_call rfl rfl rfl rfl cl23 (glayers_s _ _ [] (wtsK_zero (p := r2_0) (sl := .slice none 0 0)) DgI.nil _ _ [id] _ Sub.autoP (slv_own (n := 1) (enc := intC) (xs := [id]) (post := []) (fun _ => rfl) mauto (Nat.le_refl 1) (by decide)) (by simp))) ?_
  rintro _ _ ⟨X, Ls, ds, ao, co, Eo, Ei, rfl, hTX, hLay, hLs, hInn, Vo, rfl⟩
  have hds := hInn.len
  have hone := lay_one hTX hLay
  refine sr_as ?_
  refine sr_nil ?_
  refine aw_kp [1, 2, 4, 5, 6, 7] ?_
  refine aw_seq_region ?_
  refine sr_mv ?_
  refine sr_rd (x_loadN ag46 sz46 rfl (cells_ext mauto Ext.auto) rfl) ?_
  refine sr_d rfl (wtd_none rfl) rfl (opS_call rfl rfl rfl rfl cl14 (gaddN_s e _)) ?_
  rintro _ H9 ⟨rfl, rfl⟩
  refine sr_c (x_eq rfl rfl) (fun h1 => ?_) (fun h1 => absurd (by first | omega | decide) h1)
  refine sr_mv ?_
  refine sr_ry (x_loadN ag46 sz46 rfl (cells_ext mauto Ext.auto) rfl) ?_
  refine sr_d rfl (wtd_yes rfl rfl rfl) rfl (opS_call rfl rfl rfl rfl cl14 (gaddF_s r2_0 _ e _ (cells_ext mauto Ext.auto))) ?_
  rintro _ H9 ⟨rfl, rfl⟩
  refine sr_cy (x_eq rfl rfl) (fun h2 => ?_) (fun h2 => absurd (by first | omega | decide) h2)
  refine sr_rd (x_pick_t rfl rfl rfl) ?_
  refine sr_mv ?_
  refine sr_ry (x_move rfl) ?_
  refine sr_ry (x_move rfl) ?_
  refine sr_d rfl (wtd_yes rfl rfl rfl) rfl (opS_call rfl rfl rfl rfl cl25 (greadyN_s id _)) ?_
  rintro _ H9 ⟨rfl, rfl⟩
  refine sr_cy (x_eq rfl rfl) (fun h3 => ?_) (fun h3 => absurd (by first | omega | decide) h3)
  refine sr_rd (x_pick_t rfl rfl rfl) ?_
  refine sr_mv ?_
  refine sr_ry (x_move rfl) ?_
  refine sr_d rfl (wtd_yes rfl rfl rfl) rfl (opS_call rfl rfl rfl rfl cl15 (gedgesN_s _)) ?_
  rintro _ H9 ⟨rfl, rfl⟩
  refine sr_ry (x_lenSlice Try.underlying39 rfl) ?_
  refine sr_ry (x_move rfl) ?_
  refine sr_d rfl (wtd_yes rfl rfl rfl) rfl (opS_call rfl rfl rfl rfl cl19 (gwaitsF_s r2_0 _ _ (cells_ext mauto Ext.auto) id)) ?_
  rintro _ H9 ⟨rfl, rfl⟩
  refine sr_ry (x_lenSlice Try.underlying50 rfl) ?_
  refine sr_ry (x_add' rfl rfl (i64w (by omega) (by omega))) ?_
  refine sr_ry (x_move rfl) ?_
  refine sr_d rfl (wtd_yes rfl rfl rfl) rfl (opS_call rfl rfl rfl rfl cl26 (gdoomN_s _)) ?_
  rintro _ H9 ⟨rfl, rfl⟩
  refine sr_ry (x_lenSlice Try.underlying50 rfl) ?_
  refine sr_ry (x_add' rfl rfl (i64w (by omega) (by omega))) ?_
  refine sr_cy (x_eq rfl rfl) (fun h4 => ?_) (fun h4 => absurd (by first | omega | decide) h4)
  refine sr_rd (x_pick_t rfl rfl rfl) ?_
  refine sr_mv ?_
  refine sr_ry (x_move rfl) ?_
  refine sr_ry (x_lenSlice Try.underlying57 rfl) ?_
  refine sr_cy (x_eq rfl rfl) (fun h5 => ?_) (fun h5 => absurd (by first | omega | decide) h5)
  refine sr_rd (x_pick_t rfl rfl rfl) ?_
  refine sr_mv ?_
  refine sr_rd (x_pick_t rfl rfl rfl) ?_
  refine sr_mv ?_
  refine sr_rd (x_pick_t rfl rfl rfl) ?_
  refine sr_mv ?_
  refine sr_rd (x_pick_t rfl rfl rfl) ?_
  refine sr_mv ?_
  refine sr_d rfl (wtd_yes rfl rfl rfl) rfl (opS_call rfl rfl rfl rfl cl21 (awake34_s _)) ?_
  rintro _ H9 ⟨rfl, rfl⟩
  refine sr_rd (x_pick_t rfl rfl rfl) ?_
  refine sr_as ?_
  refine sr_nil ?_
  refine aw_kp [4] ?_
  refine aw_ret ?_
  show ∃ v H2, ResV _ _ _ _ _ _ v ∧ Sub H2 _ ∧ _
  exact ⟨_, [], resV rfl (.cons rfl .nil), (Sub.nil _), rfl⟩
end
namespace DepNobodyRow
open Go.ChangeShapes Go.WideShapes Go.ChangeAt Go.RowKit
theorem own : ownKnob Try.prog.godebug = none := by kernel_rfl
theorem laid : laidOutB Try.prog = true := by kernel_rfl
set_option maxRecDepth 100000 in
theorem lifted (os : Os) (started : os.Started) (H : Type) (enc : TypeId × Value → H) :
    ReturnsInHanded {} Try.checked os 6 .any (Rows.depNobodySpec.pre6 enc Try.prog Try.f6 Rows.depNobodyRow.domain false) (Rows.depNobodySpec.post enc Try.prog Try.f6 false true false false) := by
  refine law_lifted (C := Try.checked) (tb := 4) own started (by kernel_rfl) Try.func6 (ChangeSpec.witness6 (enc := enc) (C := Try.checked) false ⟨#[], #[.agg #[.int .i64 0, .int .i64 0, .int .i64 0], .int .i64 0], []⟩ 8 (by kernel_rfl) (by kernel_rfl) (by kernel_rfl) (by kernel_rfl)) rfl Try.underlying4 rfl laid (by kernel_rfl) ?_ ?_
  · intro ds h
    match ds, h with
    | [a0, a1], _ => rfl
  · intro W base args ds ps hval hA hlt hsz
    have hA' : DataW.TrodAll enc Try.prog W 0 (fun _ => true) true [46, 3] args ds ps := hA
    clear hA
    obtain ⟨v0, vs0, d0, ds0, p0, q0, rfl, rfl, rfl, h0, r0⟩ := trodAll_cons hA'
    obtain ⟨v1, vs1, d1, ds1, p1, q1, rfl, rfl, rfl, h1, r1⟩ := trodAll_cons r0
    obtain ⟨rfl, rfl, rfl⟩ := trodAll_nil r1
    obtain ⟨e, rfl, hw0⟩ := open_DEdge (hval 0 46 v0 rfl rfl) h0
    obtain ⟨id, rfl, hw1⟩ := opn_int Try.underlying3 (hval 1 3 v1 rfl rfl) h1
    exact depNobody_ok e id
theorem joined : joinedFacts Try.prog 6 Try.f6 Rows.depNobodySpec Rows.depNobodyRow = true := by
  unfold joinedFacts
  rw [cutMay, cutLif, cutMk]
  kernel_rfl
theorem over : Rows.depNobodyRow.holds Try.pinned (OpenSpec.ofChange Rows.depNobodySpec) :=
  OpenClaim.holds_of_wide 6 Try.f6 rfl rfl rfl rfl rfl rfl rfl ⟨rfl, rfl, rfl, rfl, rfl⟩ rfl rfl rfl rfl rfl (by kernel_rfl) Try.func6 joined
    (of_decide_eq_true (by kernel_rfl)) (by unfold Func.isWrapper; first | (rw [if_pos (by decide +kernel)]; kernel_rfl) | (rw [if_neg (by decide +kernel)]; exact ⟨rfl, rfl⟩))
    (fun os started H enc _ => lifted os started H enc)
theorem proved : Rows.DepNobodySaid := over
#print axioms proved
end DepNobodyRow
end Go.Proofs.Ytonpnkekcipmlaa
