/- In a book that nobody made nothing is booked; no condition. -/
import Derived.Test.YtjkojdjjooangaaBkd
import Derived.Test.YtjkojdjjooangaaCut
import Derived.Test.YtjkojdjjooangaaRows
namespace Go.Proofs.Ytjkojdjjooangaa
open Go.Proofs.Ytjkojdjjooangaa.Sym
open Go.RowKit (Below)
set_option linter.unusedVariables false
set_option linter.unusedSimpArgs false
theorem cells128 : Try.prog.cellsOf 128 = 4 := by kernel_rfl
theorem cells2 : Try.prog.cellsOf 2 = 1 := by kernel_rfl
theorem cells3 : Try.prog.cellsOf 3 = 1 := by kernel_rfl
theorem cells55 : Try.prog.cellsOf 55 = 3 := by kernel_rfl
theorem cells9 : Try.prog.cellsOf 9 = 1 := by kernel_rfl
theorem cl79 : Callable Try.prog 79 := ⟨Try.f79, Try.func79, by kernel_rfl, by kernel_rfl⟩
theorem cl85 : Callable Try.prog 85 := ⟨Try.f85, Try.func85, by kernel_rfl, by kernel_rfl⟩
theorem cl88 : Callable Try.prog 88 := ⟨Try.f88, Try.func88, by kernel_rfl, by kernel_rfl⟩
def Sym.PSpan.Wf (j : PSpan) : Prop := (IntKind.min .i64 ≤ j.from_ ∧ j.from_ ≤ IntKind.max .i64) ∧ (IntKind.min .i64 ≤ j.to_ ∧ j.to_ ≤ IntKind.max .i64) ∧ (IntKind.min .i64 ≤ j.width ∧ j.width ≤ IntKind.max .i64)
set_option maxRecDepth 100000 in
theorem read_PSpan {H : Type} {enc : TypeId × Value → H} {w : World} {base : Nat} {spare : Nat → Bool} {held : Bool} {fuel : Nat} {cs : List Value} {x : DataW H × List MemPlace} (h : DataW.trod enc Try.prog w base spare held fuel 55 cs = some x) : ∃ j : PSpan, cs = j.cells ∧ j.Wf := by
  obtain ⟨hlen, n, hf⟩ := read_struct Try.underlying55 h
  rw [cells55] at hlen
  obtain ⟨a0, e0, l0, u0⟩ := read_int Try.underlying2 cells2 (hf 0 _ rfl)
  obtain ⟨a1, e1, l1, u1⟩ := read_int Try.underlying2 cells2 (hf 1 _ rfl)
  obtain ⟨a2, e2, l2, u2⟩ := read_int Try.underlying3 cells3 (hf 2 _ rfl)
  refine ⟨⟨a0, a1, a2⟩, ?_, ⟨⟨l0, u0⟩, ⟨l1, u1⟩, ⟨l2, u2⟩⟩⟩
  apply List.ext_getElem?
  intro i
  match i with
  | 0 => exact e0
  | 1 => exact e1
  | 2 => exact e2
  | i + 3 => rw [List.getElem?_eq_none (by omega), List.getElem?_eq_none (by simp)]
set_option maxRecDepth 100000 in
theorem open_PSpan {H : Type} {enc : TypeId × Value → H} {w : World} {base b0 : Nat} {spare : Nat → Bool} {held : Bool} {v : Value} {d : DataW H} {p : List MemPlace} {r : Reach} (hv : Value.okWide Try.prog w r b0 55 v) (h : DataW.Trod enc Try.prog w base spare held 55 v d p) : ∃ j : PSpan, v = j.v ∧ j.Wf := by
  obtain ⟨cs, rfl, _⟩ := Go.WideShapes.okWide_struct Try.underlying55 hv
  obtain ⟨fuel, hf⟩ := h
  obtain ⟨j, h1, h2⟩ := read_PSpan hf
  refine ⟨j, ?_, h2⟩
  have : cs = j.cells.toArray := by apply Array.toList_inj.1; exact h1
  rw [this]
def Sym.BEnt.Wf (j : BEnt) : Prop := j.name.size ≤ maxLen ∧ j.sp.Wf
set_option maxRecDepth 100000 in
theorem read_BEnt {H : Type} {enc : TypeId × Value → H} {w : World} {base : Nat} {spare : Nat → Bool} {held : Bool} {fuel : Nat} {cs : List Value} {x : DataW H × List MemPlace} (h : DataW.trod enc Try.prog w base spare held fuel 128 cs = some x) : ∃ j : BEnt, cs = j.cells ∧ j.Wf := by
  obtain ⟨hlen, n, hf⟩ := read_struct Try.underlying128 h
  rw [cells128] at hlen
  obtain ⟨a0, e0, l0⟩ := read_str Try.underlying9 cells9 (hf 0 _ rfl)
  obtain ⟨y1, k1⟩ : ∃ y, DataW.trod enc Try.prog w base spare held n 55 ((cs.drop 1).take (Try.prog.cellsOf 55)) = some y := hf 1 _ rfl
  obtain ⟨a1, e1, w1⟩ := read_PSpan k1
  rw [cells55] at e1
  refine ⟨⟨a0, a1⟩, ?_, ⟨l0, w1⟩⟩
  apply List.ext_getElem?
  intro i
  match i with
  | 0 => exact e0
  | 1 => exact get_nest e1 0 (by decide)
  | 2 => exact get_nest e1 1 (by decide)
  | 3 => exact get_nest e1 2 (by decide)
  | i + 4 => rw [List.getElem?_eq_none (by omega), List.getElem?_eq_none (by simp)]
set_option maxRecDepth 100000 in
theorem open_BEnt {H : Type} {enc : TypeId × Value → H} {w : World} {base b0 : Nat} {spare : Nat → Bool} {held : Bool} {v : Value} {d : DataW H} {p : List MemPlace} {r : Reach} (hv : Value.okWide Try.prog w r b0 128 v) (h : DataW.Trod enc Try.prog w base spare held 128 v d p) : ∃ j : BEnt, v = j.v ∧ j.Wf := by
  obtain ⟨cs, rfl, _⟩ := Go.WideShapes.okWide_struct Try.underlying128 hv
  obtain ⟨fuel, hf⟩ := h
  obtain ⟨j, h1, h2⟩ := read_BEnt hf
  refine ⟨j, ?_, h2⟩
  have : cs = j.cells.toArray := by apply Array.toList_inj.1; exact h1
  rw [this]

section
variable {W0 : World}
set_option maxRecDepth 100000 in
set_option maxHeartbeats 4000000 in
theorem bookNobody_ok (e : BEnt) : AC Try.prog W0 21 [BEnt.v e] [] (fun v _ => v = .bool true) := by
  refine ac_of Try.func21 rfl rfl rfl ?_
  refine aw_seq_region ?_
  refine sr_new rfl (wtd_none rfl) rfl (x_box rfl rfl) ?_
  intro r0_0 hr0_0 gr0_0
  refine sr_as ?_
  refine sr_nil ?_
  refine aw_kp [1, 2] ?_
  refine aw_seq_region ?_
  refine sr_as ?_
  refine sr_nil ?_
  refine aw_kp [1, 2, 3] ?_
  refine aw_seq_region ?_
  refine sr_new rfl (wtd_none rfl) rfl (x_alloc zr139 rfl) ?_
  intro r2_0 hr2_0 gr2_0
  refine sr_nil ?_
  refine aw_kp [1, 2, 3, 4] ?_
  refine aw_seq_region ?_
  refine sr_mv ?_
  refine sr_d rfl (wtd_none rfl) rfl (opS_call rfl rfl rfl rfl cl85 (bgetN_s _ _)) ?_
  rintro _ H9 ⟨rfl, rfl⟩
  refine sr_mv ?_
  refine sr_rd (x_extract rfl rfl) ?_
  refine sr_rd (x_extract rfl rfl) ?_
  refine sr_new rfl (wtd_none rfl) rfl (x_alloc zr128 rfl) ?_
  intro r3_5 hr3_5 gr3_5
  refine sr_x0 rfl (wtd_none rfl) (x_store sz128 rfl rfl rfl rfl rfl Repl.auto Spl.auto) ?_
  refine sr_as ?_
  refine sr_nil ?_
  refine aw_kp [1, 2, 3, 4, 6] ?_
  refine aw_seq_region ?_
  refine sr_d rfl (wtd_none rfl) rfl (opS_call rfl rfl rfl rfl cl88 (bnextZ_s r2_0 _ (cells_ext mauto Ext.auto) 0)) ?_
  rintro _ H9 ⟨rfl, rfl⟩
  refine sr_mv ?_
  refine sr_rd (x_extract rfl rfl) ?_
  refine sr_rd (x_extract rfl rfl) ?_
  refine sr_new rfl (wtd_none rfl) rfl (x_alloc zr128 rfl) ?_
  intro r4_4 hr4_4 gr4_4
  refine sr_x0 rfl (wtd_none rfl) (x_store sz128 rfl rfl rfl rfl rfl Repl.auto Spl.auto) ?_
  refine sr_as ?_
  refine sr_nil ?_
  refine aw_kp [1, 2, 3, 4, 6, 8] ?_
  refine aw_seq_region ?_
  refine sr_mv ?_
  refine sr_d rfl (wtd_none rfl) rfl (opS_call rfl rfl rfl rfl cl80 (bwhenN_s 0 1 1 _)) ?_
  rintro _ H9 ⟨rfl, rfl⟩
  refine sr_mv ?_
  refine sr_rd (x_extract rfl rfl) ?_
  refine sr_rd (x_extract rfl rfl) ?_
  refine sr_as ?_
  refine sr_as ?_
  refine sr_nil ?_
  refine aw_kp [1, 2, 3, 4, 6, 8, 10] ?_
  refine aw_seq_region ?_
  refine sr_mv ?_
  refine sr_rd (x_loadN ag128 sz128 rfl (cells_ext mauto Ext.auto) rfl) ?_
  refine sr_d rfl (wtd_none rfl) rfl (opS_call rfl rfl rfl rfl cl82 (baddN_s e _)) ?_
  rintro _ H9 ⟨rfl, rfl⟩
  refine sr_cmp rfl (wtd_none rfl) rfl (Rd.x (x_eq rfl rfl)) (fun h1 => ?_) (fun h1 => absurd (by first | omega | decide) h1)
  refine sr_mv ?_
  refine sr_d rfl (wtd_yes rfl rfl rfl) rfl (opS_call rfl rfl rfl rfl cl81 (bremZ_s r2_0 _ (cells_ext mauto Ext.auto) _)) ?_
  rintro _ H9 ⟨rfl, rfl⟩
  refine sr_cmp rfl (wtd_yes rfl rfl rfl) rfl (Rd.x (x_eq rfl rfl)) (fun h2 => ?_) (fun h2 => absurd (by first | omega | decide) h2)
  refine sr_rd (x_pick_t rfl rfl rfl) ?_
  refine sr_mv ?_
  refine sr_ry (x_move rfl) ?_
  refine sr_cmp rfl (wtd_yes rfl rfl rfl) rfl (Rd.x (x_eq rfl rfl)) (fun h3 => ?_) (fun h3 => absurd (by first | omega | decide) h3)
  refine sr_rd (x_pick_t rfl rfl rfl) ?_
  refine sr_mv ?_
  refine sr_ry (x_move rfl) ?_
  refine sr_ry (x_not rfl) ?_
  refine sr_rd (x_pick_t rfl rfl rfl) ?_
  refine sr_mv ?_
  refine sr_ry (x_move rfl) ?_
  refine sr_cmp rfl (wtd_yes rfl rfl rfl) rfl (Rd.x (x_eq rfl rfl)) (fun h4 => ?_) (fun h4 => absurd (by first | omega | decide) h4)
  refine sr_rd (x_pick_t rfl rfl rfl) ?_
  refine sr_mv ?_
  refine sr_ry (x_move rfl) ?_
  refine sr_d rfl (wtd_yes rfl rfl rfl) rfl (opS_call rfl rfl rfl rfl cl87 (bleftN_s _)) ?_
  rintro _ H9 ⟨rfl, rfl⟩
  refine sr_ry (x_eqnil Try.underlying23 rfl rfl) ?_
  refine sr_rd (x_pick_t rfl rfl rfl) ?_
  refine sr_mv ?_
  refine sr_d rfl (wtd_yes rfl rfl rfl) rfl (opS_call rfl rfl rfl rfl cl89 (bpruneZ_s r2_0 _ (cells_ext mauto Ext.auto) 5)) ?_
  rintro _ H9 ⟨rfl, rfl⟩
  refine sr_cmp rfl (wtd_yes rfl rfl rfl) rfl (Rd.x (x_eq rfl rfl)) (fun h5 => ?_) (fun h5 => absurd (by first | omega | decide) h5)
  refine sr_rd (x_pick_t rfl rfl rfl) ?_
  refine sr_mv ?_
  refine sr_ry (x_move rfl) ?_
  refine sr_d rfl (wtd_yes rfl rfl rfl) rfl (opS_call rfl rfl rfl rfl cl83 (bentsN_s _)) ?_
  rintro _ H9 ⟨rfl, rfl⟩
  refine sr_ry (x_lenSlice Try.underlying122 rfl) ?_
  refine sr_d rfl (wtd_yes rfl rfl rfl) rfl (opS_call rfl rfl rfl rfl cl84 (bspansZ_s r2_0 _ (cells_ext mauto Ext.auto))) ?_
  rintro _ H9 ⟨rfl, rfl⟩
  refine sr_ry (x_lenSlice Try.underlying34 rfl) ?_
  refine sr_ry (x_add' rfl rfl (i64w (by omega) (by omega))) ?_
  refine sr_cmp rfl (wtd_yes rfl rfl rfl) rfl (Rd.x (x_eq rfl rfl)) (fun h6 => ?_) (fun h6 => absurd (by rfl) h6)
  refine sr_rd (x_pick_t rfl rfl rfl) ?_
  refine sr_mv ?_
  refine sr_d rfl (wtd_yes rfl rfl rfl) rfl (opS_call rfl rfl rfl rfl cl79 (awake36_s _)) ?_
  rintro _ H9 ⟨rfl, rfl⟩
  refine sr_rd (x_pick_t rfl rfl rfl) ?_
  refine sr_as ?_
  refine sr_nil ?_
  refine aw_kp [2] ?_
  refine aw_ret ?_
  show ∃ v H2, ResV _ _ _ _ _ _ v ∧ Sub H2 _ ∧ _
  exact ⟨_, [], resV rfl (.cons rfl .nil), (Sub.nil _), rfl⟩
end
namespace BookNobodyRow
open Go.ChangeShapes Go.WideShapes Go.ChangeAt Go.RowKit
theorem own : ownKnob Try.prog.godebug = none := by kernel_rfl
theorem laid : laidOutB Try.prog = true := by kernel_rfl
set_option maxRecDepth 100000 in
theorem lifted (os : Os) (started : os.Started) (H : Type) (enc : TypeId × Value → H) :
    ReturnsInHanded {} Try.checked os 21 .any (Rows.bookNobodySpec.pre6 enc Try.prog Try.f21 Rows.bookNobodyRow.domain false) (Rows.bookNobodySpec.post enc Try.prog Try.f21 false true false false) := by
  refine law_lifted (C := Try.checked) (tb := 4) own started (by kernel_rfl) Try.func21 (ChangeSpec.witness6 (enc := enc) (C := Try.checked) false ⟨#[], #[.agg #[.string .empty, .int .i64 0, .int .i64 0, .int .i64 0]], []⟩ 8 (by kernel_rfl) (by kernel_rfl) (by kernel_rfl) (by kernel_rfl)) rfl Try.underlying4 rfl laid (by kernel_rfl) ?_ ?_
  · intro ds h
    match ds, h with
    | [a0], _ => rfl
  · intro W base args ds ps hval hA hlt hsz
    have hA' : DataW.TrodAll enc Try.prog W 0 (fun _ => true) true [128] args ds ps := hA
    clear hA
    obtain ⟨v0, vs0, d0, ds0, p0, q0, rfl, rfl, rfl, h0, r0⟩ := trodAll_cons hA'
    obtain ⟨rfl, rfl, rfl⟩ := trodAll_nil r0
    obtain ⟨e, rfl, _⟩ := open_BEnt (hval 0 128 v0 rfl rfl) h0
    exact bookNobody_ok e
theorem joined : joinedFacts Try.prog 21 Try.f21 Rows.bookNobodySpec Rows.bookNobodyRow = true := by
  unfold joinedFacts
  rw [cutMay, cutLif, cutMk]
  kernel_rfl
theorem over : Rows.bookNobodyRow.holds Try.pinned (OpenSpec.ofChange Rows.bookNobodySpec) :=
  OpenClaim.holds_of_wide 21 Try.f21 rfl rfl rfl rfl rfl rfl rfl ⟨rfl, rfl, rfl, rfl, rfl⟩ rfl rfl rfl rfl rfl (by kernel_rfl) Try.func21 joined
    (of_decide_eq_true (by kernel_rfl)) (by unfold Func.isWrapper; first | (rw [if_pos (by decide +kernel)]; kernel_rfl) | (rw [if_neg (by decide +kernel)]; exact ⟨rfl, rfl⟩))
    (fun os started H enc _ => lifted os started H enc)
theorem proved : Rows.BookNobodySaid := over
#print axioms proved
end BookNobodyRow
end Go.Proofs.Ytjkojdjjooangaa
