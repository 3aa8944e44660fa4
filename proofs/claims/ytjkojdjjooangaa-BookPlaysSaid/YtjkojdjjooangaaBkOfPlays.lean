/- Whatever is booked, and let go, entries are those of the document's book; no condition. -/
import Derived.Test.YtjkojdjjooangaaBkd
import Derived.Test.YtjkojdjjooangaaCut
import Derived.Test.YtjkojdjjooangaaRows
namespace Go.Proofs.Ytjkojdjjooangaa
open Go.Proofs.Ytjkojdjjooangaa.Sym
open Go.RowKit (Below)
set_option linter.unusedVariables false
set_option linter.unusedSimpArgs false
theorem cells165 : Try.prog.cellsOf 165 = 5 := by kernel_rfl
theorem cells2 : Try.prog.cellsOf 2 = 1 := by kernel_rfl
theorem cells3 : Try.prog.cellsOf 3 = 1 := by kernel_rfl
theorem cells55 : Try.prog.cellsOf 55 = 3 := by kernel_rfl
theorem cells9 : Try.prog.cellsOf 9 = 1 := by kernel_rfl
theorem cl78 : Callable Try.prog 78 := ⟨Try.f78, Try.func78, by kernel_rfl, by kernel_rfl⟩
theorem cl79 : Callable Try.prog 79 := ⟨Try.f79, Try.func79, by kernel_rfl, by kernel_rfl⟩
theorem cl85 : Callable Try.prog 85 := ⟨Try.f85, Try.func85, by kernel_rfl, by kernel_rfl⟩
theorem kn128 : kindsOfN Try.prog 100 128 = some [.str, .int, .int, .int] := by kernel_rfl
theorem ks55 : kindsOf Try.prog 55 = some [.int, .int, .int] := by kernel_rfl
def Sym.PSpan.Wf (j : PSpan) : Prop := (IntKind.min .i64 ≤ j.from_ ∧ j.from_ ≤ IntKind.max .i64) ∧ (IntKind.min .i64 ≤ j.to_ ∧ j.to_ ≤ IntKind.max .i64) ∧ (IntKind.min .i64 ≤ j.width ∧ j.width ≤ IntKind.max .i64)
set_option maxRecDepth 100000 in
theorem read_PSpan {H : Type} {enc : TypeId × Value → H} {w : World} {base : Nat} {spare : Nat → Bool} {held : Bool} {fuel : Nat} {cs : List Value} {x : DataW H × List MemPlace} (h : DataW.trod enc Try.prog w base spare held fuel 55 cs = some x) : ∃ j : PSpan, cs = j.cells ∧ j.Wf := by
  obtain ⟨hlen, n, hf⟩ := read_struct Try.underlying55 h
  rw [cells55] at hlen
  obtain ⟨a0, e0, l0, u0⟩ := read_int Try.underlying2 cells2 (hf 0 _ rfl)
  obtain ⟨a1, e1, l1, u1⟩ := read_int Try.underlying2 cells2 (hf 1 _ rfl)
  obtain ⟨a2, e2, l2, u2⟩ := read_int Try.underlying3 cells3 (hf 2 _ rfl)
  refine ⟨⟨a0, a1, a2⟩, ?_, ⟨⟨l0, u0⟩, ⟨l1, u1⟩, ⟨l2, u2⟩⟩⟩
  apply List.ext_getElem?
  intro i
  match i with
  | 0 => exact e0
  | 1 => exact e1
  | 2 => exact e2
  | i + 3 => rw [List.getElem?_eq_none (by omega), List.getElem?_eq_none (by simp)]
set_option maxRecDepth 100000 in
theorem open_PSpan {H : Type} {enc : TypeId × Value → H} {w : World} {base b0 : Nat} {spare : Nat → Bool} {held : Bool} {v : Value} {d : DataW H} {p : List MemPlace} {r : Reach} (hv : Value.okWide Try.prog w r b0 55 v) (h : DataW.Trod enc Try.prog w base spare held 55 v d p) : ∃ j : PSpan, v = j.v ∧ j.Wf := by
  obtain ⟨cs, rfl, _⟩ := Go.WideShapes.okWide_struct Try.underlying55 hv
  obtain ⟨fuel, hf⟩ := h
  obtain ⟨j, h1, h2⟩ := read_PSpan hf
  refine ⟨j, ?_, h2⟩
  have : cs = j.cells.toArray := by apply Array.toList_inj.1; exact h1
  rw [this]
def BOp.Wf (j : BOp) : Prop := (IntKind.min .i64 ≤ j.kind ∧ j.kind ≤ IntKind.max .i64) ∧ j.name.size ≤ maxLen ∧ j.sp.Wf
set_option maxRecDepth 100000 in
theorem read_BOp {H : Type} {enc : TypeId × Value → H} {w : World} {base : Nat} {spare : Nat → Bool} {held : Bool} {fuel : Nat} {cs : List Value} {x : DataW H × List MemPlace} (h : DataW.trod enc Try.prog w base spare held fuel 165 cs = some x) : ∃ j : BOp, cs = j.cells ∧ j.Wf := by
  obtain ⟨hlen, n, hf⟩ := read_struct Try.underlying165 h
  rw [cells165] at hlen
  obtain ⟨a0, e0, l0, u0⟩ := read_int Try.underlying3 cells3 (hf 0 _ rfl)
  obtain ⟨a1, e1, l1⟩ := read_str Try.underlying9 cells9 (hf 1 _ rfl)
  obtain ⟨y2, k2⟩ : ∃ y, DataW.trod enc Try.prog w base spare held n 55 ((cs.drop 2).take (Try.prog.cellsOf 55)) = some y := hf 2 _ rfl
  obtain ⟨a2, e2, w2⟩ := read_PSpan k2
  rw [cells55] at e2
  refine ⟨⟨a0, a1, a2⟩, ?_, ⟨⟨l0, u0⟩, l1, w2⟩⟩
  apply List.ext_getElem?
  intro i
  match i with
  | 0 => exact e0
  | 1 => exact e1
  | 2 => exact get_nest e2 0 (by decide)
  | 3 => exact get_nest e2 1 (by decide)
  | 4 => exact get_nest e2 2 (by decide)
  | i + 5 => rw [List.getElem?_eq_none (by omega), List.getElem?_eq_none (by simp)]
set_option maxRecDepth 100000 in
theorem open_BOp {H : Type} {enc : TypeId × Value → H} {w : World} {base b0 : Nat} {spare : Nat → Bool} {held : Bool} {v : Value} {d : DataW H} {p : List MemPlace} {r : Reach} (hv : Value.okWide Try.prog w r b0 165 v) (h : DataW.Trod enc Try.prog w base spare held 165 v d p) : ∃ j : BOp, v = j.v ∧ j.Wf := by
  obtain ⟨cs, rfl, _⟩ := Go.WideShapes.okWide_struct Try.underlying165 hv
  obtain ⟨fuel, hf⟩ := h
  obtain ⟨j, h1, h2⟩ := read_BOp hf
  refine ⟨j, ?_, h2⟩
  have : cs = j.cells.toArray := by apply Array.toList_inj.1; exact h1
  rw [this]
theorem cells_tail {W0 : World} {H : SHeap} {b o : Nat} {v : Value} {vs : List Value} (h : Cells W0 H b o (v :: vs)) : Cells W0 H b (o + 1) vs := by
  obtain ⟨cs, e, fz, h1, h2⟩ := h
  refine ⟨cs, e, fz, h1, fun i u hu => ?_⟩
  have := h2 (i + 1) u hu
  rwa [show o + (i + 1) = o + 1 + i by omega] at this
theorem get_no {B : List BEnt} {nm : ByteArray} {e e2 : BEnt} {r2 : Int} {k : Nat} (hk : B.length ≤ k) (h : e = ⟨.empty, ⟨0, 0, 0⟩⟩ ∧ ∀ j x, j < k → B[j]? = some x → x.name ≠ nm) (hg : (r2 = 7 ∧ e2 = ⟨.empty, ⟨0, 0, 0⟩⟩ ∧ ∀ x ∈ B, x.name ≠ nm) ∨ (r2 = 0 ∧ e2 ∈ B ∧ e2.name = nm)) : e = e2 ∧ r2 = 7 := by
  rcases hg with ⟨h1, h2, _⟩ | ⟨h1, h2, h3⟩
  · exact ⟨h.1.trans h2.symm, h1⟩
  · obtain ⟨j, hj⟩ := List.getElem?_of_mem h2
    exact absurd h3 (h.2 j e2 (by have := get_lt hj; omega) hj)
theorem get_yes {B : List BEnt} {nm : ByteArray} {e e2 : BEnt} {r2 : Int} (hs : BSrt B) (h : e ∈ B ∧ e.name = nm) (hg : (r2 = 7 ∧ e2 = ⟨.empty, ⟨0, 0, 0⟩⟩ ∧ ∀ x ∈ B, x.name ≠ nm) ∨ (r2 = 0 ∧ e2 ∈ B ∧ e2.name = nm)) : e = e2 ∧ r2 = 0 := by
  rcases hg with ⟨_, _, h3⟩ | ⟨h1, h2, h3⟩
  · exact absurd h.2 (h3 e h.1)
  · refine ⟨?_, h1⟩
    obtain ⟨i, hi⟩ := List.getElem?_of_mem h.1
    obtain ⟨j, hj⟩ := List.getElem?_of_mem h2
    rcases Nat.lt_trichotomy i j with q | q | q
    · exact absurd (h.2.trans h3.symm) (bless_ne (hs.lt hi hj q))
    · subst q; rw [hi] at hj; cases hj; rfl
    · exact absurd (h3.trans h.2.symm) (bless_ne (hs.lt hj hi q))

section
variable {W0 : World}
set_option maxRecDepth 100000 in
set_option maxHeartbeats 400000 in
theorem bookPlays_bad (n : Int) (sa : Option Addr) (scap : Nat) (script : List BOp) (hs0 : ∀ G, SlV W0 G 5 BOp.cells sa scap script) (nm : ByteArray) (hn : ¬ (1 ≤ n ∧ n ≤ 64)) : AC Try.prog W0 19 [.int .i64 n, .slice sa script.length scap, .string nm] [] (fun v _ => v = .bool true) := by
  refine ac_of Try.func19 rfl rfl rfl ?_
  refine aw_seq_region ?_
  refine sr_as ?_
  refine sr_nil ?_
  refine aw_kp [0, 1, 2, 6] ?_
  refine aw_seq_region ?_
  refine sr_mv ?_
  refine sr_mv ?_
  refine sr_d rfl (wtd_none rfl) rfl (opS_call rfl rfl rfl rfl cl78 (bmadeN_s n sa scap script hs0 _ hn)) ?_
  rintro _ H9 ⟨rfl, rfl⟩
  refine sr_mv ?_
  refine sr_rd (x_extract rfl rfl) ?_
  refine sr_rd (x_extract rfl rfl) ?_
  refine sr_rd (x_extract rfl rfl) ?_
  refine sr_as ?_
  refine sr_as ?_
  refine sr_as ?_
  refine sr_nil ?_
  refine aw_kp [0, 2, 6, 7, 8, 9] ?_
  refine aw_seq ?_
  refine aw_seq_region ?_
  refine sr_mv ?_
  refine sr_cmp rfl (wtd_none rfl) rfl (Rd.x (x_lt rfl rfl)) (fun h1 => ?_) (fun h1 => ?_)
  · refine sr_mv ?_
    refine sr_skip rfl (wtd_no rfl rfl rfl rfl) rfl ?_
    refine sr_skip rfl (wtd_no rfl rfl rfl rfl) rfl ?_
    refine sr_rd (x_pick_t rfl rfl rfl) ?_
    refine sr_nil ?_
    refine aw_kp [2, 6, 7, 8, 9, 29] ?_
    refine aw_true rfl ?_
    refine aw_seq_region ?_
    refine sr_mv ?_
    refine sr_rd (x_eqnil Try.underlying118 rfl rfl) ?_
    refine sr_mv ?_
    refine sr_d rfl (wtd_yes rfl rfl rfl) rfl (opS_call rfl rfl rfl rfl cl79 (awake36_s _)) ?_
    rintro _ H9 ⟨rfl, rfl⟩
    refine sr_rd (x_pick_t rfl rfl rfl) ?_
    refine sr_as ?_
    refine sr_nil ?_
    refine aw_kp [2, 6, 7, 8, 9] ?_
    refine aw_ret ?_
    show ∃ v H2, ResV _ _ _ _ _ _ v ∧ Sub H2 _ ∧ _
    exact ⟨_, [], resV rfl (.cons rfl .nil), (Sub.nil _), rfl⟩
  · refine sr_mv ?_
    refine sr_ry (x_move rfl) ?_
    refine sr_cmp rfl (wtd_yes rfl rfl rfl) rfl (Rd.x (x_gt rfl rfl)) (fun h2 => ?_) (fun h2 => absurd (by first | omega | decide) h2)
    refine sr_rd (x_pick_f rfl rfl rfl) ?_
    refine sr_nil ?_
    refine aw_kp [2, 6, 7, 8, 9, 29] ?_
    refine aw_true rfl ?_
    refine aw_seq_region ?_
    refine sr_mv ?_
    refine sr_rd (x_eqnil Try.underlying118 rfl rfl) ?_
    refine sr_mv ?_
    refine sr_d rfl (wtd_yes rfl rfl rfl) rfl (opS_call rfl rfl rfl rfl cl79 (awake36_s _)) ?_
    rintro _ H9 ⟨rfl, rfl⟩
    refine sr_rd (x_pick_t rfl rfl rfl) ?_
    refine sr_as ?_
    refine sr_nil ?_
    refine aw_kp [2, 6, 7, 8, 9] ?_
    refine aw_ret ?_
    show ∃ v H2, ResV _ _ _ _ _ _ v ∧ Sub H2 _ ∧ _
    exact ⟨_, [], resV rfl (.cons rfl .nil), (Sub.nil _), rfl⟩
set_option maxRecDepth 100000 in
set_option maxHeartbeats 16000000 in
theorem bookPlays_ok (n : Int) (sa : Option Addr) (scap : Nat) (script : List BOp) (hs0 : ∀ G, SlV W0 G 5 BOp.cells sa scap script) (nm : ByteArray) (hn : 1 ≤ n ∧ n ≤ 64) : AC Try.prog W0 19 [.int .i64 n, .slice sa script.length scap, .string nm] [] (fun v _ => v = .bool true) := by
  refine ac_of Try.func19 rfl rfl rfl ?_
  refine aw_seq_region ?_
  refine sr_as ?_
  refine sr_nil ?_
  refine aw_kp [0, 1, 2, 6] ?_
  refine aw_seq_region ?_
  refine sr_mv ?_
  refine sr_mv ?_
  refine sr_d rfl (wtd_none rfl) rfl (opS_call rfl rfl rfl rfl cl78 (bmade_s n sa scap script hs0 _ hn)) ?_
  rintro _ _ ⟨bk, qk, B, a, cap, E, a2, c2, E2, rfl, hI, V, V2, rfl⟩
  have hs := V.slv' (W0 := W0) (fun _ => rfl) rfl (Sub.refl _)
  have hq := V2.slv' (W0 := W0) (fun _ => rfl) rfl (Sub.refl _)
  have hle := hs.le
  have hcb := hs.capb
  have hle2 := hq.le
  have hcb2 := hq.capb
  have hBl := hI.len
  have hml : (B.map BEnt.sp).length = B.length := List.length_map _
  refine sr_mv ?_
  refine sr_rd (x_extract rfl rfl) ?_
  refine sr_rd (x_extract rfl rfl) ?_
  refine sr_rd (x_extract rfl rfl) ?_
  refine sr_as ?_
  refine sr_as ?_
  refine sr_as ?_
  refine sr_nil ?_
  refine aw_kp [0, 2, 6, 7, 8, 9] ?_
  refine aw_seq ?_
  refine aw_seq_region ?_
  refine sr_mv ?_
  refine sr_cmp rfl (wtd_none rfl) rfl (Rd.x (x_lt rfl rfl)) (fun h1 => absurd h1 (by first | omega | decide)) (fun h1 => ?_)
  refine sr_mv ?_
  refine sr_ry (x_move rfl) ?_
  refine sr_cmp rfl (wtd_yes rfl rfl rfl) rfl (Rd.x (x_gt rfl rfl)) (fun h2 => absurd h2 (by first | omega | decide)) (fun h2 => ?_)
  refine sr_rd (x_pick_f rfl rfl rfl) ?_
  refine sr_nil ?_
  refine aw_kp [2, 6, 7, 8, 9, 29] ?_
  refine aw_false rfl ?_
  refine aw_skip ?_
  show AW _ _ _ _ _ _ _
  refine aw_seq ?_
  refine aw_seq_region ?_
  refine sr_mv ?_
  refine sr_rd (x_eqnil Try.underlying118 rfl rfl) ?_
  refine sr_mv ?_
  refine sr_ry (x_move rfl) ?_
  refine sr_ry (x_eqnil Try.underlying119 rfl rfl) ?_
  refine sr_rd (x_pick_f rfl rfl rfl) ?_
  refine sr_mv ?_
  refine sr_ry (x_move rfl) ?_
  refine sr_ry (x_not rfl) ?_
  refine sr_rd (x_pick_f rfl rfl rfl) ?_
  refine sr_nil ?_
  refine aw_kp [2, 6, 7, 8, 44] ?_
  refine aw_false rfl ?_
  refine aw_skip ?_
  show AW _ _ _ _ _ _ _
  refine aw_seq_region ?_
  refine sr_mv ?_
  refine sr_d rfl (wtd_none rfl) rfl (opS_call rfl rfl rfl rfl cl83 (bents_s bk a cap B n _ (cells_ext mauto Ext.auto) (hs.mono Sub.autoE) hn hI.len)) ?_
  rintro _ _ ⟨EX, ⟨aX, cX, VX, rfl⟩, rfl⟩
  have hx9 := VX.slv' (W0 := W0) (fun _ => rfl) rfl (Sub.refl _)
  have hxl := hx9.le
  have hxc := hx9.capb
  refine sr_mv ?_
  refine sr_d rfl (wtd_none rfl) rfl (opS_call rfl rfl rfl rfl cl84 (bspans_s bk a cap B n _ (cells_ext mauto Ext.auto) (hs.mono Sub.autoE) hn hI.len)) ?_
  rintro _ _ ⟨ES, ⟨aS, cS, VS, rfl⟩, rfl⟩
  have hsp := VS.slv' (W0 := W0) (fun _ => rfl) rfl (Sub.refl _)
  have hspl := hsp.le
  have hspc := hsp.capb
  refine sr_as ?_
  refine sr_as ?_
  refine sr_nil ?_
  refine aw_kp [2, 6, 7, 8, 10, 11] ?_
  refine aw_seq ?_
  refine aw_seq_region ?_
  refine sr_mv ?_
  refine sr_rd (x_lenSlice Try.underlying122 rfl) ?_
  refine sr_mv ?_
  refine sr_rd (x_nilCheck rfl) ?_
  refine sr_rd (x_fieldAddr fd124_0 rfl) ?_
  refine sr_rd (x_load ag122 rfl (cells_ext mauto Ext.auto)) ?_
  refine sr_rd (x_lenSlice Try.underlying122 rfl) ?_
  refine sr_cmp rfl (wtd_none rfl) rfl (Rd.x (x_ne rfl rfl)) (fun h3 => absurd h3 (by first | omega | decide)) (fun h3 => ?_)
  refine sr_mv ?_
  refine sr_ry (x_move rfl) ?_
  refine sr_ry (x_lenSlice Try.underlying34 rfl) ?_
  refine sr_ry (x_move rfl) ?_
  refine sr_ry (x_nilCheck rfl) ?_
  refine sr_ry (x_fieldAddr fd124_0 rfl) ?_
  refine sr_ry (x_load ag122 rfl (cells_ext mauto Ext.auto)) ?_
  refine sr_ry (x_lenSlice Try.underlying122 rfl) ?_
  refine sr_cmp rfl (wtd_yes rfl rfl rfl) rfl (Rd.x (x_ne rfl rfl)) (fun h4 => absurd h4 (by first | omega | decide)) (fun h4 => ?_)
  refine sr_rd (x_pick_f rfl rfl rfl) ?_
  refine sr_nil ?_
  refine aw_kp [2, 6, 7, 8, 10, 11, 66] ?_
  refine aw_false rfl ?_
  refine aw_skip ?_
  show AW _ _ _ _ _ _ _
  refine aw_seq_region ?_
  refine sr_rd (x_build zr128 rfl fl128 Parts.auto Fill.auto) ?_
  refine sr_new rfl (wtd_none rfl) rfl (x_alloc zr128 rfl) ?_
  intro r9_1 hr9_1 gr9_1
  refine sr_x0 rfl (wtd_none rfl) (x_store sz128 rfl rfl rfl rfl rfl Repl.auto Spl.auto) ?_
  refine sr_nil ?_
  refine aw_kp [2, 6, 7, 8, 10, 11, 12] ?_
  refine aw_seq_region ?_
  refine sr_as ?_
  refine sr_nil ?_
  refine aw_kp [2, 6, 7, 8, 10, 11, 12, 13] ?_
  refine aw_seq ?_
  refine aw_seq_region ?_
  refine sr_as ?_
  refine sr_nil ?_
  refine aw_kp [2, 6, 7, 8, 10, 11, 12, 13, 14] ?_
  refine aw_block ?_
  refine aw_loop (ι := NxG) (fun s => s.k ≤ B.length ∧ (s.has = false → s.e = ⟨.empty, ⟨0, 0, 0⟩⟩ ∧ ∀ j x, j < s.k → B[j]? = some x → x.name ≠ nm) ∧ (s.has = true → s.e ∈ B ∧ s.e.name = nm)) (fun s => [(2, .string nm), (6, .bool false), (7, .pointer (some ⟨bk, 0, none⟩)), (8, .pointer (some ⟨qk, 0, none⟩)), (10, .slice aX B.length cX), (11, .slice aS (B.map BEnt.sp).length cS), (12, .pointer (some ⟨r9_1, 0, none⟩)), (13, .bool s.has), (14, .int .i64 s.k)]) (fun s => (r9_1, .cells (BEnt.cells s.e).toArray 128 (0, 0)) :: (ES ++ (EX ++ (bkB bk (.slice a B.length cap) n :: (E ++ (bpB qk (.slice a2 B.length c2) n :: (E2 ++ []))))))) (fun s => B.length - s.k) ⟨0, ⟨.empty, ⟨0, 0, 0⟩⟩, false⟩ (⟨Nat.zero_le _, fun _ => ⟨rfl, fun j x h => by dsimp only at h; omega⟩, fun h => by cases h⟩) KeepF.auto Sub.autoP ?_
  intro s9 hs9
  obtain ⟨k, e, has⟩ := s9
  dsimp only at hs9 ⊢
  obtain ⟨hk, hw0, hw1⟩ := hs9
  refine aw_seq ?_
  refine aw_seq_region ?_
  refine sr_mv ?_
  refine sr_mv ?_
  refine sr_rd (x_lenSlice Try.underlying122 rfl) ?_
  refine sr_cmp rfl (wtd_none rfl) rfl (Rd.x (x_lt rfl rfl)) (fun h5 => ?_) (fun h5 => ?_)
  · refine sr_nil ?_
    refine aw_kp [2, 6, 7, 8, 10, 11, 12, 13, 14, 68, 69, 70, 71] ?_
    refine aw_true rfl ?_
    refine aw_skip ?_
    show AW _ _ _ _ _ _ _
    refine aw_seq ?_
    refine aw_block ?_
    refine aw_seq ?_
    refine aw_seq_dr ⟨_, 27, 141, [[], [], [0, 1], [0, 1, 2], [], [4], [4, 5], [4, 5, 6], [], [4, 5, 6, 7, 8], [4, 5, 6, 7, 8, 9], [0, 1, 2, 3, 4, 5, 6, 7, 8, 9, 10], [0, 1, 2, 3, 4, 5, 6, 7, 8, 9, 10, 11], [0, 1, 2, 3, 4, 5, 6, 7, 8, 9, 10, 11, 12], [0, 1, 2, 3, 4, 5, 6, 7, 8, 9, 10, 11, 12], [0, 1, 2, 3, 4, 5, 6, 7, 8, 9, 10, 11, 12, 13, 14], [0, 1, 2, 3, 4, 5, 6, 7, 8, 9, 10, 11, 12, 13, 14, 15], [0, 1, 2, 3, 4, 5, 6, 7, 8, 9, 10, 11, 12], [0, 1, 2, 3, 4, 5, 6, 7, 8, 9, 10, 11, 12, 17], [0, 1, 2, 3, 4, 5, 6, 7, 8, 9, 10, 11, 12, 17, 18], [0, 1, 2, 3, 4, 5, 6, 7, 8, 9, 10, 11, 12, 17, 18, 19], [0, 1, 2, 3, 4, 5, 6, 7, 8, 9, 10, 11, 12], [0, 1, 2, 3, 4, 5, 6, 7, 8, 9, 10, 11, 12, 17, 18, 19, 20, 21], [0, 1, 2, 3, 4, 5, 6, 7, 8, 9, 10, 11, 12, 17, 18, 19, 20, 21, 22], [0, 1, 2, 3, 4, 5, 6, 7, 8, 9, 10, 11, 12, 17, 18, 19, 20, 21, 22, 23], [0, 1, 2, 3, 4, 5, 6, 7, 8, 9, 10, 11, 12, 13, 14, 15, 16, 17, 18, 19, 20, 21, 22, 23, 24], [0, 1, 2, 3, 4, 5, 6, 7, 8, 9, 10, 11, 12, 13, 14, 15, 16, 17, 18, 19, 20, 21, 22, 23, 24, 25]], [.light, .light, .light, .mem, .light, .light, .light, .mem, .light, .light, .mem, .light, .light, .light, .light, .light, .mem, .light, .light, .light, .mem, .light, .light, .light, .mem, .light, .light]⟩ (by kernel_rfl) rfl rfl mix ?_
    obtain ⟨x, hx⟩ := get_ex (show k < B.length by omega)
    obtain ⟨bx, ox, hax, hcx⟩ := hx9.at_ _ _ hx
    obtain ⟨by_, oy, hay, hcy⟩ := hq.at_ _ _ hx
    have hxs : (B.map BEnt.sp)[k]? = some x.sp := by rw [List.getElem?_map, hx]; rfl
    obtain ⟨bz, oz, haz, hcz⟩ := hsp.at_ _ _ hxs
    refine dr_light rfl rfl (wtd_none rfl) (x_move rfl) ?_
    refine dr_light rfl rfl (wtd_none rfl) (x_move rfl) ?_
    refine dr_light rfl rfl (wtd_none rfl) (x_indexAddrN (k) Try.underlying122 sz128 rfl hax rfl (by omega) (by omega)) ?_
    refine dr_mem0 rfl rfl (wtd_none rfl) (x_loadN ag128 sz128 rfl (Cells.mono hcx Sub.autoE) rfl) ?_
    refine dr_light rfl rfl (wtd_none rfl) (x_move rfl) ?_
    refine dr_light rfl rfl (wtd_none rfl) (x_nilCheck rfl) ?_
    refine dr_light rfl rfl (wtd_none rfl) (x_fieldAddr fd124_0 rfl) ?_
    refine dr_mem0 rfl rfl (wtd_none rfl) (x_load ag122 rfl (cells_ext mauto Ext.auto)) ?_
    refine dr_light rfl rfl (wtd_none rfl) (x_move rfl) ?_
    refine dr_light rfl rfl (wtd_none rfl) (x_indexAddrN (k) Try.underlying122 sz128 rfl hay rfl (by omega) (by omega)) ?_
    refine dr_mem0 rfl rfl (wtd_none rfl) (x_loadN ag128 sz128 rfl (Cells.mono hcy Sub.autoE) rfl) ?_
    refine dr_cmp rfl rfl (wtd_none rfl) (x_neStructN kn128 rfl rfl rfl rfl rfl) (fun h6 => absurd h6 (by simp [eqC, sEq])) (fun h6 => ?_)
    refine dr_light rfl rfl (wtd_none rfl) (x_move rfl) ?_
    refine dr_light rfl rfl (wtd_yes rfl rfl rfl) (x_move rfl) ?_
    refine dr_light rfl rfl (wtd_yes rfl rfl rfl) (x_move rfl) ?_
    refine dr_light rfl rfl (wtd_yes rfl rfl rfl) (x_indexAddrN (k) Try.underlying34 sz55 rfl haz rfl (by omega) (by omega)) ?_
    refine dr_mem0 rfl rfl (wtd_yes rfl rfl rfl) (x_loadN ag55 sz55 rfl (Cells.mono hcz Sub.autoE) rfl) ?_
    refine dr_light rfl rfl (wtd_yes rfl rfl rfl) (x_move rfl) ?_
    refine dr_light rfl rfl (wtd_yes rfl rfl rfl) (x_nilCheck rfl) ?_
    refine dr_light rfl rfl (wtd_yes rfl rfl rfl) (x_fieldAddr fd124_0 rfl) ?_
    refine dr_mem0 rfl rfl (wtd_yes rfl rfl rfl) (x_load ag122 rfl (cells_ext mauto Ext.auto)) ?_
    refine dr_light rfl rfl (wtd_yes rfl rfl rfl) (x_move rfl) ?_
    refine dr_light rfl rfl (wtd_yes rfl rfl rfl) (x_indexAddrN (k) Try.underlying122 sz128 rfl hay rfl (by omega) (by omega)) ?_
    refine dr_light rfl rfl (wtd_yes rfl rfl rfl) (x_fieldAddr fd128_1 rfl) ?_
    refine dr_mem0 rfl rfl (wtd_yes rfl rfl rfl) (x_loadN ag55 sz55 rfl (cells_tail (Cells.mono hcy Sub.autoE)) rfl) ?_
    refine dr_cmp rfl rfl (wtd_yes rfl rfl rfl) (x_neStruct Try.underlying55 ks55 rfl rfl rfl rfl rfl) (fun h7 => absurd h7 (by simp [eqC, sEq])) (fun h7 => ?_)
    refine dr_light rfl rfl (wtd_none rfl) (x_pick_f rfl rfl rfl) ?_
    refine dr_nil0 ?_
    refine aw_kp [2, 6, 7, 8, 10, 11, 12, 13, 14, 68, 69, 70, 71, 74, 75, 76, 77, 78, 79, 80, 81, 82, 83, 84, 85, 86, 87, 88, 89, 90, 91, 92, 93, 94, 95, 96, 97, 98, 99, 100] ?_
    refine aw_false rfl ?_
    refine aw_skip ?_
    show AW _ _ _ _ _ _ _
    refine aw_seq_region ?_
    refine sr_mv ?_
    refine sr_mv ?_
    refine sr_rd (x_indexAddrN (k) Try.underlying122 sz128 rfl hax rfl (by omega) (by omega)) ?_
    refine sr_rd (x_fieldAddr fd128_0 rfl) ?_
    refine sr_rd (x_load ag9 rfl (cells_get (Cells.mono hcx Sub.autoE) 0 rfl)) ?_
    refine sr_mv ?_
    refine sr_cmp rfl (wtd_none rfl) rfl (Rd.x (x_eqS rfl rfl)) (fun h8 => ?_) (fun h8 => ?_)
    · refine sr_nil ?_
      refine aw_kp [2, 6, 7, 8, 10, 11, 12, 13, 14, 68, 69, 70, 71, 74, 75, 76, 77, 78, 79, 80, 81, 82, 83, 84, 85, 86, 87, 88, 89, 90, 91, 92, 93, 94, 95, 96, 97, 98, 99, 100, 101, 102, 103, 104, 105, 106, 107] ?_
      refine aw_true rfl ?_
      refine aw_seq_region ?_
      refine sr_mv ?_
      refine sr_mv ?_
      refine sr_rd (x_indexAddrN (k) Try.underlying122 sz128 rfl hax rfl (by omega) (by omega)) ?_
      refine sr_rd (x_loadN ag128 sz128 rfl (Cells.mono hcx Sub.autoE) rfl) ?_
      refine sr_x0 rfl (wtd_none rfl) (x_store sz128 rfl rfl rfl rfl rfl Repl.auto Spl.auto) ?_
      refine sr_nil ?_
      refine aw_kp [2, 6, 7, 8, 10, 11, 12, 13, 14, 68, 69, 70, 71, 74, 75, 76, 77, 78, 79, 80, 81, 82, 83, 84, 85, 86, 87, 88, 89, 90, 91, 92, 93, 94, 95, 96, 97, 98, 99, 100, 101, 102, 103, 104, 105, 106, 107, 108, 109, 110, 111] ?_
      refine aw_region ?_
      refine sr_as ?_
      refine sr_nil ?_
      show AW _ _ _ _ _ _ _
      refine aw_region ?_
      refine sr_mv ?_
      refine sr_rd (x_add' rfl rfl (i64w (by omega) (by omega))) ?_
      refine sr_as ?_
      refine sr_nil ?_
      show ∃ s', _ ∧ _ ∧ _ ∧ _
      first | exact ⟨⟨k + 1, x, true⟩, ⟨by dsimp only; omega, fun h => (by cases h), fun _ => ⟨List.mem_of_getElem? hx, by assumption⟩⟩, by dsimp only; omega, KeepF.auto, Sub.autoD⟩ | exact ⟨⟨k + 1, e, has⟩, ⟨by dsimp only; omega, fun h => ⟨(hw0 h).1, fun j y hj hy => by (rcases Nat.lt_or_eq_of_le (Nat.le_of_lt_succ hj) with q | q); (exact (hw0 h).2 j y q hy); (subst q; rw [hx] at hy; cases hy; assumption)⟩, hw1⟩, by dsimp only; omega, KeepF.auto, Sub.autoD⟩
    · refine sr_nil ?_
      refine aw_kp [2, 6, 7, 8, 10, 11, 12, 13, 14, 68, 69, 70, 71, 74, 75, 76, 77, 78, 79, 80, 81, 82, 83, 84, 85, 86, 87, 88, 89, 90, 91, 92, 93, 94, 95, 96, 97, 98, 99, 100, 101, 102, 103, 104, 105, 106, 107] ?_
      refine aw_false rfl ?_
      refine aw_skip ?_
      show AW _ _ _ _ _ _ _
      refine aw_region ?_
      refine sr_mv ?_
      refine sr_rd (x_add' rfl rfl (i64w (by omega) (by omega))) ?_
      refine sr_as ?_
      refine sr_nil ?_
      show ∃ s', _ ∧ _ ∧ _ ∧ _
      first | exact ⟨⟨k + 1, x, true⟩, ⟨by dsimp only; omega, fun h => (by cases h), fun _ => ⟨List.mem_of_getElem? hx, by assumption⟩⟩, by dsimp only; omega, KeepF.auto, Sub.autoD⟩ | exact ⟨⟨k + 1, e, has⟩, ⟨by dsimp only; omega, fun h => ⟨(hw0 h).1, fun j y hj hy => by (rcases Nat.lt_or_eq_of_le (Nat.le_of_lt_succ hj) with q | q); (exact (hw0 h).2 j y q hy); (subst q; rw [hx] at hy; cases hy; assumption)⟩, hw1⟩, by dsimp only; omega, KeepF.auto, Sub.autoD⟩
  · refine sr_nil ?_
    refine aw_kp [2, 6, 7, 8, 10, 11, 12, 13, 14, 68, 69, 70, 71] ?_
    refine aw_false rfl ?_
    refine aw_exit ?_
    show AW _ _ _ _ _ _ _
    refine aw_seq_region ?_
    refine sr_mv ?_
    refine sr_mv ?_
    refine sr_d rfl (wtd_none rfl) rfl (opS_call rfl rfl rfl rfl cl85 (bget_s bk a cap B n _ (cells_ext mauto Ext.auto) (hs.mono Sub.autoE) hI hn nm)) ?_
    rintro _ _ ⟨⟨e2, r2, rfl, hg⟩, rfl⟩
    cases has
    · obtain ⟨rfl, rfl⟩ := get_no (by omega) (hw0 rfl) hg
      refine sr_mv ?_
      refine sr_rd (x_extract rfl rfl) ?_
      refine sr_rd (x_extract rfl rfl) ?_
      refine sr_new rfl (wtd_none rfl) rfl (x_alloc zr128 rfl) ?_
      intro r19_6 hr19_6 gr19_6
      refine sr_x0 rfl (wtd_none rfl) (x_store sz128 rfl rfl rfl rfl rfl Repl.auto Spl.auto) ?_
      refine sr_as ?_
      refine sr_nil ?_
      refine aw_kp [6, 12, 13, 15, 16] ?_
      refine aw_seq_region ?_
      refine sr_rd (x_loadN ag128 sz128 rfl (cells_ext mauto Ext.auto) rfl) ?_
      refine sr_rd (x_loadN ag128 sz128 rfl (cells_ext mauto Ext.auto) rfl) ?_
      refine sr_cmp rfl (wtd_none rfl) rfl (Rd.x (x_eqStructN kn128 rfl rfl rfl rfl rfl)) (fun h9 => ?_) (fun h9 => absurd (by simp [eqC, sEq]) h9)
      refine sr_mv ?_
      refine sr_ry (x_move rfl) ?_
      refine sr_cmp rfl (wtd_yes rfl rfl rfl) rfl (Rd.x (x_eq rfl rfl)) (fun h10 => absurd h10 (by first | omega | decide)) (fun h10 => ?_)
      refine sr_ry (x_move rfl) ?_
      refine sr_ry (x_eqb Try.underlying4 rfl rfl) ?_
      refine sr_rd (x_pick_t rfl rfl rfl) ?_
      refine sr_mv ?_
      refine sr_ry (x_move rfl) ?_
      refine sr_ry (x_move rfl) ?_
      refine sr_ry (x_move rfl) ?_
      refine sr_cmp rfl (wtd_yes rfl rfl rfl) rfl (Rd.x (x_eq rfl rfl)) (fun h11 => ?_) (fun h11 => absurd (by first | omega | decide) h11)
      refine sr_ry (x_pick_f rfl rfl rfl) ?_
      refine sr_rd (x_pick_t rfl rfl rfl) ?_
      refine sr_mv ?_
      refine sr_rd (x_pick_t rfl rfl rfl) ?_
      refine sr_mv ?_
      refine sr_rd (x_pick_t rfl rfl rfl) ?_
      refine sr_mv ?_
      refine sr_d rfl (wtd_yes rfl rfl rfl) rfl (opS_call rfl rfl rfl rfl cl79 (awake36_s _)) ?_
      rintro _ H9 ⟨rfl, rfl⟩
      refine sr_rd (x_pick_t rfl rfl rfl) ?_
      refine sr_as ?_
      refine sr_nil ?_
      refine aw_kp [6] ?_
      refine aw_ret ?_
      show ∃ v H2, ResV _ _ _ _ _ _ v ∧ Sub H2 _ ∧ _
      exact ⟨_, [], resV rfl (.cons rfl .nil), (Sub.nil _), rfl⟩
    · obtain ⟨rfl, rfl⟩ := get_yes hI.srt (hw1 rfl) hg
      refine sr_mv ?_
      refine sr_rd (x_extract rfl rfl) ?_
      refine sr_rd (x_extract rfl rfl) ?_
      refine sr_new rfl (wtd_none rfl) rfl (x_alloc zr128 rfl) ?_
      intro r19_6 hr19_6 gr19_6
      refine sr_x0 rfl (wtd_none rfl) (x_store sz128 rfl rfl rfl rfl rfl Repl.auto Spl.auto) ?_
      refine sr_as ?_
      refine sr_nil ?_
      refine aw_kp [6, 12, 13, 15, 16] ?_
      refine aw_seq_region ?_
      refine sr_rd (x_loadN ag128 sz128 rfl (cells_ext mauto Ext.auto) rfl) ?_
      refine sr_rd (x_loadN ag128 sz128 rfl (cells_ext mauto Ext.auto) rfl) ?_
      refine sr_cmp rfl (wtd_none rfl) rfl (Rd.x (x_eqStructN kn128 rfl rfl rfl rfl rfl)) (fun h12 => ?_) (fun h12 => absurd (by simp [eqC, sEq]) h12)
      refine sr_mv ?_
      refine sr_ry (x_move rfl) ?_
      refine sr_cmp rfl (wtd_yes rfl rfl rfl) rfl (Rd.x (x_eq rfl rfl)) (fun h13 => ?_) (fun h13 => absurd (by first | omega | decide) h13)
      refine sr_ry (x_move rfl) ?_
      refine sr_ry (x_eqb Try.underlying4 rfl rfl) ?_
      refine sr_rd (x_pick_t rfl rfl rfl) ?_
      refine sr_mv ?_
      refine sr_ry (x_move rfl) ?_
      refine sr_ry (x_move rfl) ?_
      refine sr_skip rfl (wtd_no rfl rfl rfl rfl) rfl ?_
      refine sr_skip rfl (wtd_no rfl rfl rfl rfl) rfl ?_
      refine sr_ry (x_pick_t rfl rfl rfl) ?_
      refine sr_rd (x_pick_t rfl rfl rfl) ?_
      refine sr_mv ?_
      refine sr_rd (x_pick_t rfl rfl rfl) ?_
      refine sr_mv ?_
      refine sr_rd (x_pick_t rfl rfl rfl) ?_
      refine sr_mv ?_
      refine sr_d rfl (wtd_yes rfl rfl rfl) rfl (opS_call rfl rfl rfl rfl cl79 (awake36_s _)) ?_
      rintro _ H9 ⟨rfl, rfl⟩
      refine sr_rd (x_pick_t rfl rfl rfl) ?_
      refine sr_as ?_
      refine sr_nil ?_
      refine aw_kp [6] ?_
      refine aw_ret ?_
      show ∃ v H2, ResV _ _ _ _ _ _ v ∧ Sub H2 _ ∧ _
      exact ⟨_, [], resV rfl (.cons rfl .nil), (Sub.nil _), rfl⟩
end
namespace BookPlaysRow
open Go.ChangeShapes Go.WideShapes Go.ChangeAt Go.RowKit
theorem own : ownKnob Try.prog.godebug = none := by kernel_rfl
theorem laid : laidOutB Try.prog = true := by kernel_rfl
set_option maxRecDepth 100000 in
theorem lifted (os : Os) (started : os.Started) (H : Type) (enc : TypeId × Value → H) :
    ReturnsInHanded {} Try.checked os 19 .any (Rows.bookPlaysSpec.pre6 enc Try.prog Try.f19 Rows.bookPlaysRow.domain false) (Rows.bookPlaysSpec.post enc Try.prog Try.f19 false true false false) := by
  refine law_lifted (C := Try.checked) (tb := 4) own started (by kernel_rfl) Try.func19 (ChangeSpec.witness6 (enc := enc) (C := Try.checked) false ⟨#[], #[.int .i64 0, .slice none 0 0, .string .empty], []⟩ 8 (by kernel_rfl) (by kernel_rfl) (by kernel_rfl) (by kernel_rfl)) rfl Try.underlying4 rfl laid (by kernel_rfl) ?_ ?_
  · intro ds h
    match ds, h with
    | [a0, a1, a2], _ => rfl
  · intro W base args ds ps hval hA hlt hsz
    have hA' : DataW.TrodAll enc Try.prog W 0 (fun _ => true) true [3, 117, 9] args ds ps := hA
    clear hA
    obtain ⟨v0, vs0, d0, ds0, p0, q0, rfl, rfl, rfl, h0, r0⟩ := trodAll_cons hA'
    obtain ⟨v1, vs1, d1, ds1, p1, q1, rfl, rfl, rfl, h1, r1⟩ := trodAll_cons r0
    obtain ⟨v2, vs2, d2, ds2, p2, q2, rfl, rfl, rfl, h2, r2⟩ := trodAll_cons r1
    obtain ⟨rfl, rfl, rfl⟩ := trodAll_nil r2
    obtain ⟨n, rfl, _⟩ := opn_int Try.underlying3 (hval 0 3 v0 rfl rfl) h0
    obtain ⟨sa, scap, script, rfl, hs, _⟩ := opn_slice (en := BOp.cells) (Ok := fun j => j.Wf) Try.underlying117 cells165 (by decide) (fun fuel cs x h => read_BOp h) (hval 1 117 v1 rfl rfl) h1
    obtain ⟨nm, rfl, _⟩ := opn_str Try.underlying9 (hval 2 9 v2 rfl rfl) h2
    by_cases hn : 1 ≤ n ∧ n ≤ 64
    · exact bookPlays_ok n sa scap script hs nm hn
    · exact bookPlays_bad n sa scap script hs nm hn
theorem joined : joinedFacts Try.prog 19 Try.f19 Rows.bookPlaysSpec Rows.bookPlaysRow = true := by
  unfold joinedFacts
  rw [cutMay, cutLif, cutMk]
  kernel_rfl
theorem over : Rows.bookPlaysRow.holds Try.pinned (OpenSpec.ofChange Rows.bookPlaysSpec) :=
  OpenClaim.holds_of_wide 19 Try.f19 rfl rfl rfl rfl rfl rfl rfl ⟨rfl, rfl, rfl, rfl, rfl⟩ rfl rfl rfl rfl rfl (by kernel_rfl) Try.func19 joined
    (of_decide_eq_true (by kernel_rfl)) (by unfold Func.isWrapper; first | (rw [if_pos (by decide +kernel)]; kernel_rfl) | (rw [if_neg (by decide +kernel)]; exact ⟨rfl, rfl⟩))
    (fun os started H enc _ => lifted os started H enc)
theorem proved : Rows.BookPlaysSaid := over
#print axioms proved
end BookPlaysRow
end Go.Proofs.Ytjkojdjjooangaa
