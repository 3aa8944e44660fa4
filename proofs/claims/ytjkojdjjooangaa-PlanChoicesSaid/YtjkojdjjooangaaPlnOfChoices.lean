/- The choices for any items on any profile are what the document's planning tells, or there are none for the document's reason; no condition. -/
import Derived.Test.YtjkojdjjooangaaPlnHelp
import Derived.Test.YtjkojdjjooangaaCut
import Derived.Test.YtjkojdjjooangaaRows
namespace Go.Proofs.Ytjkojdjjooangaa
open Go.Proofs.Ytjkojdjjooangaa.Sym
open Go.RowKit (Below)
set_option linter.unusedVariables false
set_option linter.unusedSimpArgs false
theorem cells66 : Try.prog.cellsOf 66 = 4 := by kernel_rfl
theorem cl42 : Callable Try.prog 42 := ⟨Try.f42, Try.func42, by kernel_rfl, by kernel_rfl⟩
theorem cl43 : Callable Try.prog 43 := ⟨Try.f43, Try.func43, by kernel_rfl, by kernel_rfl⟩
theorem cl44 : Callable Try.prog 44 := ⟨Try.f44, Try.func44, by kernel_rfl, by kernel_rfl⟩
theorem cl47 : Callable Try.prog 47 := ⟨Try.f47, Try.func47, by kernel_rfl, by kernel_rfl⟩
theorem cl48 : Callable Try.prog 48 := ⟨Try.f48, Try.func48, by kernel_rfl, by kernel_rfl⟩
theorem cl49 : Callable Try.prog 49 := ⟨Try.f49, Try.func49, by kernel_rfl, by kernel_rfl⟩
def Sym.PSpan.Wf (j : PSpan) : Prop := IntKind.min .i64 ≤ j.from_ ∧ j.from_ ≤ IntKind.max .i64 ∧ IntKind.min .i64 ≤ j.to_ ∧ j.to_ ≤ IntKind.max .i64 ∧ IntKind.min .i64 ≤ j.width ∧ j.width ≤ IntKind.max .i64
set_option maxRecDepth 100000 in
theorem read_PSpan {H : Type} {enc : TypeId × Value → H} {w : World} {base : Nat} {spare : Nat → Bool} {held : Bool} {fuel : Nat} {cs : List Value} {x : DataW H × List MemPlace} (h : DataW.trod enc Try.prog w base spare held fuel 55 cs = some x) : ∃ j : PSpan, cs = j.cells ∧ j.Wf := by
  obtain ⟨hlen, n, hf⟩ := read_struct Try.underlying55 h
  rw [cells55] at hlen
  obtain ⟨a0, e0, l0, u0⟩ := read_int Try.underlying2 cells2 (hf 0 _ rfl)
  obtain ⟨a1, e1, l1, u1⟩ := read_int Try.underlying2 cells2 (hf 1 _ rfl)
  obtain ⟨a2, e2, l2, u2⟩ := read_int Try.underlying3 cells3 (hf 2 _ rfl)
  refine ⟨⟨a0, a1, a2⟩, ?_, ⟨l0, u0, l1, u1, l2, u2⟩⟩
  apply List.ext_getElem?
  intro i
  match i with
  | 0 => exact e0
  | 1 => exact e1
  | 2 => exact e2
  | i + 3 => rw [List.getElem?_eq_none (by omega), List.getElem?_eq_none (by simp)]
set_option maxRecDepth 100000 in
theorem open_PSpan {H : Type} {enc : TypeId × Value → H} {w : World} {base b0 : Nat} {spare : Nat → Bool} {held : Bool} {v : Value} {d : DataW H} {p : List MemPlace} {r : Reach} (hv : Value.okWide Try.prog w r b0 55 v) (h : DataW.Trod enc Try.prog w base spare held 55 v d p) : ∃ j : PSpan, v = j.v ∧ j.Wf := by
  obtain ⟨cs, rfl, _⟩ := Go.WideShapes.okWide_struct Try.underlying55 hv
  obtain ⟨fuel, hf⟩ := h
  obtain ⟨j, h1, h2⟩ := read_PSpan hf
  refine ⟨j, ?_, h2⟩
  have : cs = j.cells.toArray := by apply Array.toList_inj.1; exact h1
  rw [this]
set_option maxRecDepth 100000 in
theorem read_Item {H : Type} {enc : TypeId × Value → H} {w : World} {base : Nat} {spare : Nat → Bool} {held : Bool} {fuel : Nat} {cs : List Value} {x : DataW H × List MemPlace} (h : DataW.trod enc Try.prog w base spare held fuel 66 cs = some x) : ∃ j : Item, cs = j.cells ∧ j.Wf := by
  obtain ⟨hlen, n, hf⟩ := read_struct Try.underlying66 h
  rw [cells66] at hlen
  obtain ⟨a0, e0, l0, u0⟩ := read_int Try.underlying3 cells3 (hf 0 _ rfl)
  obtain ⟨a1, e1, l1, u1⟩ := read_int Try.underlying3 cells3 (hf 1 _ rfl)
  obtain ⟨a2, e2, l2, u2⟩ := read_int Try.underlying2 cells2 (hf 2 _ rfl)
  obtain ⟨a3, e3, l3, u3⟩ := read_int Try.underlying2 cells2 (hf 3 _ rfl)
  refine ⟨⟨a0, a1, a2, a3⟩, ?_, ⟨l0, u0, l1, u1, l2, u2, l3, u3⟩⟩
  apply List.ext_getElem?
  intro i
  match i with
  | 0 => exact e0
  | 1 => exact e1
  | 2 => exact e2
  | 3 => exact e3
  | i + 4 => rw [List.getElem?_eq_none (by omega), List.getElem?_eq_none (by simp)]
set_option maxRecDepth 100000 in
theorem open_Item {H : Type} {enc : TypeId × Value → H} {w : World} {base b0 : Nat} {spare : Nat → Bool} {held : Bool} {v : Value} {d : DataW H} {p : List MemPlace} {r : Reach} (hv : Value.okWide Try.prog w r b0 66 v) (h : DataW.Trod enc Try.prog w base spare held 66 v d p) : ∃ j : Item, v = j.v ∧ j.Wf := by
  obtain ⟨cs, rfl, _⟩ := Go.WideShapes.okWide_struct Try.underlying66 hv
  obtain ⟨fuel, hf⟩ := h
  obtain ⟨j, h1, h2⟩ := read_Item hf
  refine ⟨j, ?_, h2⟩
  have : cs = j.cells.toArray := by apply Array.toList_inj.1; exact h1
  rw [this]

section
variable {W0 : World}
set_option maxRecDepth 100000 in
set_option maxHeartbeats 400000 in
theorem planChoices_bad (n : Int) (sa : Option Addr) (scap : Nat) (sps : List PSpan) (hs0 : ∀ G, SlV W0 G 3 PSpan.cells sa scap sps) (d : Int) (ai : Option Addr) (ci : Nat) (l : List Item) (hi0 : ∀ G, SlV W0 G 4 Item.cells ai ci l) (hn : ¬ (0 ≤ n ∧ n ≤ 64)) : AC Try.prog W0 7 [.int .i64 n, .slice sa sps.length scap, .int .i64 d, .slice ai l.length ci] [] (fun v _ => v = .bool true) := by
  refine ac_of Try.func7 rfl rfl rfl ?_
  refine aw_seq_region ?_
  refine sr_x rfl (wtd_none rfl) rfl (Rd.x (x_assign rfl)) ?_
  refine sr_nil ?_
  refine aw_keep (keep_cons (t := 0) rfl (keep_cons (t := 1) rfl (keep_cons (t := 2) rfl (keep_cons (t := 3) rfl (keep_cons (t := 8) rfl keep_nil))))) ?_
  refine aw_seq_region ?_
  refine sr_x rfl (wtd_none rfl) rfl (Rd.x (x_move rfl)) ?_
  refine sr_d rfl (wtd_none rfl) rfl (opS_call rfl rfl rfl rfl cl42 (few12_s ai ci l _ (hi0 []).le (hi0 []).capb)) ?_
  rintro _ H9 ⟨rfl, rfl⟩
  obtain ⟨xs, hxs⟩ : ∃ xs, xs = l.take 12 := ⟨_, rfl⟩
  have hi : ∀ G, SlV W0 G 4 Item.cells ai ci xs := fun G => hxs ▸ (hi0 G).take 12
  have hx12 : xs.length ≤ 12 := by rw [hxs, List.length_take]; omega
  rw [← hxs]
  have hil := (hi []).le
  have hic := (hi []).capb
  refine sr_x rfl (wtd_none rfl) rfl (Rd.x (x_assign rfl)) ?_
  refine sr_nil ?_
  refine aw_keep (keep_cons (t := 0) rfl (keep_cons (t := 1) rfl (keep_cons (t := 2) rfl (keep_cons (t := 3) rfl (keep_cons (t := 8) rfl keep_nil))))) ?_
  refine aw_seq_region ?_
  refine sr_x rfl (wtd_none rfl) rfl (Rd.x (x_move rfl)) ?_
  refine sr_x rfl (wtd_none rfl) rfl (Rd.x (x_move rfl)) ?_
  refine sr_d rfl (wtd_none rfl) rfl (opS_call rfl rfl rfl rfl cl43 (made14N_s n sa scap sps hs0 _ hn)) ?_
  rintro _ H9 ⟨rfl, rfl⟩
  refine sr_x rfl (wtd_none rfl) rfl (Rd.x (x_move rfl)) ?_
  refine sr_x rfl (wtd_none rfl) rfl (Rd.x (x_extract rfl rfl)) ?_
  refine sr_x rfl (wtd_none rfl) rfl (Rd.x (x_extract rfl rfl)) ?_
  refine sr_x rfl (wtd_none rfl) rfl (Rd.x (x_assign rfl)) ?_
  refine sr_x rfl (wtd_none rfl) rfl (Rd.x (x_assign rfl)) ?_
  refine sr_nil ?_
  refine aw_keep (keep_cons (t := 0) rfl (keep_cons (t := 2) rfl (keep_cons (t := 3) rfl (keep_cons (t := 8) rfl (keep_cons (t := 9) rfl (keep_cons (t := 10) rfl keep_nil)))))) ?_
  refine aw_seq ?_
  refine aw_seq_region ?_
  refine sr_x rfl (wtd_none rfl) rfl (Rd.x (x_move rfl)) ?_
  refine sr_x rfl (wtd_none rfl) rfl (Rd.x (x_eqnil Try.underlying23 rfl rfl)) ?_
  refine sr_x rfl (wtd_none rfl) rfl (Rd.x (x_move rfl)) ?_
  refine sr_skip rfl (wtd_no rfl rfl rfl rfl) rfl ?_
  refine sr_skip rfl (wtd_no rfl rfl rfl rfl) rfl ?_
  refine sr_x rfl (wtd_none rfl) rfl (Rd.x (x_pick_t rfl rfl rfl)) ?_
  refine sr_nil ?_
  refine aw_keep (keep_cons (t := 0) rfl (keep_cons (t := 2) rfl (keep_cons (t := 3) rfl (keep_cons (t := 8) rfl (keep_cons (t := 9) rfl (keep_cons (t := 10) rfl (keep_cons (t := 28) rfl keep_nil))))))) ?_
  refine aw_true rfl ?_
  refine aw_seq_region ?_
  refine sr_x rfl (wtd_none rfl) rfl (Rd.x (x_move rfl)) ?_
  refine sr_cmp rfl (wtd_none rfl) rfl (Rd.x (x_lt rfl rfl)) (fun h1 => ?_) (fun h1 => ?_)
  · refine sr_x rfl (wtd_none rfl) rfl (Rd.x (x_move rfl)) ?_
    refine sr_skip rfl (wtd_no rfl rfl rfl rfl) rfl ?_
    refine sr_skip rfl (wtd_no rfl rfl rfl rfl) rfl ?_
    refine sr_x rfl (wtd_none rfl) rfl (Rd.x (x_pick_t rfl rfl rfl)) ?_
    refine sr_x rfl (wtd_none rfl) rfl (Rd.x (x_move rfl)) ?_
    refine sr_d rfl (wtd_yes rfl rfl rfl) rfl (opS_call rfl rfl rfl rfl cl44 (awake14_s _)) ?_
    rintro _ H9 ⟨rfl, rfl⟩
    refine sr_x rfl (wtd_none rfl) rfl (Rd.x (x_pick_t rfl rfl rfl)) ?_
    refine sr_x rfl (wtd_none rfl) rfl (Rd.x (x_assign rfl)) ?_
    refine sr_nil ?_
    refine aw_keep (keep_cons (t := 2) rfl (keep_cons (t := 3) rfl (keep_cons (t := 8) rfl (keep_cons (t := 9) rfl (keep_cons (t := 10) rfl keep_nil))))) ?_
    refine aw_ret ?_
    show ∃ v H2, ResV _ _ _ _ _ _ v ∧ Sub H2 _ ∧ _
    exact ⟨_, [], resV rfl (.cons rfl .nil), (Sub.nil _), rfl⟩
  · refine sr_x rfl (wtd_none rfl) rfl (Rd.x (x_move rfl)) ?_
    refine sr_x rfl (wtd_yes rfl rfl rfl) rfl (Rd.x (x_move rfl)) ?_
    refine sr_cmp rfl (wtd_yes rfl rfl rfl) rfl (Rd.x (x_gt rfl rfl)) (fun h2 => ?_) (fun h2 => absurd (by first | omega | decide) h2)
    refine sr_x rfl (wtd_none rfl) rfl (Rd.x (x_pick_f rfl rfl rfl)) ?_
    refine sr_x rfl (wtd_none rfl) rfl (Rd.x (x_move rfl)) ?_
    refine sr_d rfl (wtd_yes rfl rfl rfl) rfl (opS_call rfl rfl rfl rfl cl44 (awake14_s _)) ?_
    rintro _ H9 ⟨rfl, rfl⟩
    refine sr_x rfl (wtd_none rfl) rfl (Rd.x (x_pick_t rfl rfl rfl)) ?_
    refine sr_x rfl (wtd_none rfl) rfl (Rd.x (x_assign rfl)) ?_
    refine sr_nil ?_
    refine aw_keep (keep_cons (t := 2) rfl (keep_cons (t := 3) rfl (keep_cons (t := 8) rfl (keep_cons (t := 9) rfl (keep_cons (t := 10) rfl keep_nil))))) ?_
    refine aw_ret ?_
    show ∃ v H2, ResV _ _ _ _ _ _ v ∧ Sub H2 _ ∧ _
    exact ⟨_, [], resV rfl (.cons rfl .nil), (Sub.nil _), rfl⟩
set_option maxRecDepth 100000 in
set_option maxHeartbeats 1000000 in
theorem planChoices_arg (n : Int) (sa : Option Addr) (scap : Nat) (sps : List PSpan) (hs0 : ∀ G, SlV W0 G 3 PSpan.cells sa scap sps) (d : Int) (ai : Option Addr) (ci : Nat) (l : List Item) (hi0 : ∀ G, SlV W0 G 4 Item.cells ai ci l) (hn : 0 ≤ n ∧ n ≤ 64) (hd : ¬ (1 ≤ d ∧ d ≤ 64)) : AC Try.prog W0 7 [.int .i64 n, .slice sa sps.length scap, .int .i64 d, .slice ai l.length ci] [] (fun v _ => v = .bool true) := by
  refine ac_of Try.func7 rfl rfl rfl ?_
  refine aw_seq_region ?_
  refine sr_x rfl (wtd_none rfl) rfl (Rd.x (x_assign rfl)) ?_
  refine sr_nil ?_
  refine aw_keep (keep_cons (t := 0) rfl (keep_cons (t := 1) rfl (keep_cons (t := 2) rfl (keep_cons (t := 3) rfl (keep_cons (t := 8) rfl keep_nil))))) ?_
  refine aw_seq_region ?_
  refine sr_x rfl (wtd_none rfl) rfl (Rd.x (x_move rfl)) ?_
  refine sr_d rfl (wtd_none rfl) rfl (opS_call rfl rfl rfl rfl cl42 (few12_s ai ci l _ (hi0 []).le (hi0 []).capb)) ?_
  rintro _ H9 ⟨rfl, rfl⟩
  obtain ⟨xs, hxs⟩ : ∃ xs, xs = l.take 12 := ⟨_, rfl⟩
  have hi : ∀ G, SlV W0 G 4 Item.cells ai ci xs := fun G => hxs ▸ (hi0 G).take 12
  have hx12 : xs.length ≤ 12 := by rw [hxs, List.length_take]; omega
  rw [← hxs]
  have hil := (hi []).le
  have hic := (hi []).capb
  refine sr_x rfl (wtd_none rfl) rfl (Rd.x (x_assign rfl)) ?_
  refine sr_nil ?_
  refine aw_keep (keep_cons (t := 0) rfl (keep_cons (t := 1) rfl (keep_cons (t := 2) rfl (keep_cons (t := 3) rfl (keep_cons (t := 8) rfl keep_nil))))) ?_
  refine aw_seq_region ?_
  refine sr_x rfl (wtd_none rfl) rfl (Rd.x (x_move rfl)) ?_
  refine sr_x rfl (wtd_none rfl) rfl (Rd.x (x_move rfl)) ?_
  refine sr_d rfl (wtd_none rfl) rfl (opS_call rfl rfl rfl rfl cl43 (made14_s n sa scap sps hs0 _ hn)) ?_
  rintro _ _ ⟨p, q, S, now, L, ver, a, cap, E, b, d', EL, rfl, hst, V, VL, rfl⟩
  have hsS := V.slv' (W0 := W0) (fun _ => rfl) rfl (Sub.refl _)
  have hsL := VL.slv' (W0 := W0) (fun _ => rfl) rfl (Sub.refl _)
  have hrep := hst.rep
  have hvr := hst.vr
  have hln := hst.ln
  have hsl := hst.sl
  have hps := rep_pos hrep
  have hnw := hst.nw
  refine sr_x rfl (wtd_none rfl) rfl (Rd.x (x_move rfl)) ?_
  refine sr_x rfl (wtd_none rfl) rfl (Rd.x (x_extract rfl rfl)) ?_
  refine sr_x rfl (wtd_none rfl) rfl (Rd.x (x_extract rfl rfl)) ?_
  refine sr_x rfl (wtd_none rfl) rfl (Rd.x (x_assign rfl)) ?_
  refine sr_x rfl (wtd_none rfl) rfl (Rd.x (x_assign rfl)) ?_
  refine sr_nil ?_
  refine aw_keep (keep_cons (t := 0) rfl (keep_cons (t := 2) rfl (keep_cons (t := 3) rfl (keep_cons (t := 8) rfl (keep_cons (t := 9) rfl (keep_cons (t := 10) rfl keep_nil)))))) ?_
  refine aw_seq ?_
  refine aw_seq_region ?_
  refine sr_x rfl (wtd_none rfl) rfl (Rd.x (x_move rfl)) ?_
  refine sr_x rfl (wtd_none rfl) rfl (Rd.x (x_eqnil Try.underlying23 rfl rfl)) ?_
  refine sr_x rfl (wtd_none rfl) rfl (Rd.x (x_move rfl)) ?_
  refine sr_x rfl (wtd_yes rfl rfl rfl) rfl (Rd.x (x_move rfl)) ?_
  refine sr_x rfl (wtd_yes rfl rfl rfl) rfl (Rd.x (x_eqnil Try.underlying24 rfl rfl)) ?_
  refine sr_x rfl (wtd_none rfl) rfl (Rd.x (x_pick_f rfl rfl rfl)) ?_
  refine sr_nil ?_
  refine aw_keep (keep_cons (t := 0) rfl (keep_cons (t := 2) rfl (keep_cons (t := 3) rfl (keep_cons (t := 8) rfl (keep_cons (t := 9) rfl (keep_cons (t := 10) rfl (keep_cons (t := 28) rfl keep_nil))))))) ?_
  refine aw_false rfl ?_
  refine aw_skip ?_
  show AW _ _ _ _ _ _ _
  refine aw_seq_region ?_
  refine sr_x rfl (wtd_none rfl) rfl (Rd.x (x_move rfl)) ?_
  refine sr_x rfl (wtd_none rfl) rfl (Rd.x (x_move rfl)) ?_
  refine sr_x rfl (wtd_none rfl) rfl (Rd.x (x_move rfl)) ?_
  refine sr_d rfl (wtd_none rfl) rfl (opS_call rfl rfl rfl rfl cl45 (yallArg_s p a cap S ver _ (cells_ext (by repeat (first | exact List.mem_cons_self | apply List.mem_cons_of_mem | apply List.mem_append_right)) (by repeat (first | exact Ext.all _ | exact Ext.done | apply Ext.take | apply Ext.skip))) (hsS.mono (Sub.takeE0 (by repeat (first | exact TakeE.here | apply TakeE.there | apply TakeE.app)))) hps (by omega) d ai ci xs (hi _) hd)) ?_
  rintro _ H9 ⟨rfl, rfl⟩
  refine sr_x rfl (wtd_none rfl) rfl (Rd.x (x_move rfl)) ?_
  refine sr_x rfl (wtd_none rfl) rfl (Rd.x (x_extract rfl rfl)) ?_
  refine sr_x rfl (wtd_none rfl) rfl (Rd.x (x_extract rfl rfl)) ?_
  refine sr_x rfl (wtd_none rfl) rfl (Rd.x (x_assign rfl)) ?_
  refine sr_x rfl (wtd_none rfl) rfl (Rd.x (x_assign rfl)) ?_
  refine sr_nil ?_
  refine aw_keep (keep_cons (t := 2) rfl (keep_cons (t := 3) rfl (keep_cons (t := 8) rfl (keep_cons (t := 10) rfl (keep_cons (t := 11) rfl (keep_cons (t := 12) rfl keep_nil)))))) ?_
  refine aw_seq ?_
  refine aw_seq_region ?_
  refine sr_x rfl (wtd_none rfl) rfl (Rd.x (x_move rfl)) ?_
  refine sr_cmp rfl (wtd_none rfl) rfl (Rd.x (x_lt rfl rfl)) (fun h1 => ?_) (fun h1 => ?_)
  · refine sr_x rfl (wtd_none rfl) rfl (Rd.x (x_move rfl)) ?_
    refine sr_skip rfl (wtd_no rfl rfl rfl rfl) rfl ?_
    refine sr_skip rfl (wtd_no rfl rfl rfl rfl) rfl ?_
    refine sr_x rfl (wtd_none rfl) rfl (Rd.x (x_pick_t rfl rfl rfl)) ?_
    refine sr_nil ?_
    refine aw_keep (keep_cons (t := 2) rfl (keep_cons (t := 3) rfl (keep_cons (t := 8) rfl (keep_cons (t := 10) rfl (keep_cons (t := 11) rfl (keep_cons (t := 12) rfl (keep_cons (t := 50) rfl keep_nil))))))) ?_
    refine aw_true rfl ?_
    refine aw_seq_region ?_
    refine sr_x rfl (wtd_none rfl) rfl (Rd.x (x_move rfl)) ?_
    refine sr_x rfl (wtd_none rfl) rfl (Rd.x (x_lenSlice Try.underlying61 rfl)) ?_
    refine sr_cmp rfl (wtd_none rfl) rfl (Rd.x (x_eq rfl rfl)) (fun h2 => ?_) (fun h2 => absurd (by first | omega | decide) h2)
    refine sr_x rfl (wtd_none rfl) rfl (Rd.x (x_move rfl)) ?_
    refine sr_x rfl (wtd_yes rfl rfl rfl) rfl (Rd.x (x_move rfl)) ?_
    refine sr_cmp rfl (wtd_yes rfl rfl rfl) rfl (Rd.x (x_eq rfl rfl)) (fun h3 => ?_) (fun h3 => absurd (by first | omega | decide) h3)
    refine sr_x rfl (wtd_none rfl) rfl (Rd.x (x_pick_t rfl rfl rfl)) ?_
    refine sr_x rfl (wtd_none rfl) rfl (Rd.x (x_move rfl)) ?_
    refine sr_d rfl (wtd_yes rfl rfl rfl) rfl (opS_call rfl rfl rfl rfl cl44 (awake14_s _)) ?_
    rintro _ H9 ⟨rfl, rfl⟩
    refine sr_x rfl (wtd_none rfl) rfl (Rd.x (x_pick_t rfl rfl rfl)) ?_
    refine sr_x rfl (wtd_none rfl) rfl (Rd.x (x_assign rfl)) ?_
    refine sr_nil ?_
    refine aw_keep (keep_cons (t := 2) rfl (keep_cons (t := 3) rfl (keep_cons (t := 8) rfl (keep_cons (t := 10) rfl (keep_cons (t := 11) rfl (keep_cons (t := 12) rfl keep_nil)))))) ?_
    refine aw_ret ?_
    show ∃ v H2, ResV _ _ _ _ _ _ v ∧ Sub H2 _ ∧ _
    exact ⟨_, [], resV rfl (.cons rfl .nil), (Sub.nil _), rfl⟩
  · refine sr_x rfl (wtd_none rfl) rfl (Rd.x (x_move rfl)) ?_
    refine sr_x rfl (wtd_yes rfl rfl rfl) rfl (Rd.x (x_move rfl)) ?_
    refine sr_cmp rfl (wtd_yes rfl rfl rfl) rfl (Rd.x (x_gt rfl rfl)) (fun h4 => ?_) (fun h4 => absurd (by first | omega | decide) h4)
    refine sr_x rfl (wtd_none rfl) rfl (Rd.x (x_pick_f rfl rfl rfl)) ?_
    refine sr_nil ?_
    refine aw_keep (keep_cons (t := 2) rfl (keep_cons (t := 3) rfl (keep_cons (t := 8) rfl (keep_cons (t := 10) rfl (keep_cons (t := 11) rfl (keep_cons (t := 12) rfl (keep_cons (t := 50) rfl keep_nil))))))) ?_
    refine aw_true rfl ?_
    refine aw_seq_region ?_
    refine sr_x rfl (wtd_none rfl) rfl (Rd.x (x_move rfl)) ?_
    refine sr_x rfl (wtd_none rfl) rfl (Rd.x (x_lenSlice Try.underlying61 rfl)) ?_
    refine sr_cmp rfl (wtd_none rfl) rfl (Rd.x (x_eq rfl rfl)) (fun h5 => ?_) (fun h5 => absurd (by first | omega | decide) h5)
    refine sr_x rfl (wtd_none rfl) rfl (Rd.x (x_move rfl)) ?_
    refine sr_x rfl (wtd_yes rfl rfl rfl) rfl (Rd.x (x_move rfl)) ?_
    refine sr_cmp rfl (wtd_yes rfl rfl rfl) rfl (Rd.x (x_eq rfl rfl)) (fun h6 => ?_) (fun h6 => absurd (by first | omega | decide) h6)
    refine sr_x rfl (wtd_none rfl) rfl (Rd.x (x_pick_t rfl rfl rfl)) ?_
    refine sr_x rfl (wtd_none rfl) rfl (Rd.x (x_move rfl)) ?_
    refine sr_d rfl (wtd_yes rfl rfl rfl) rfl (opS_call rfl rfl rfl rfl cl44 (awake14_s _)) ?_
    rintro _ H9 ⟨rfl, rfl⟩
    refine sr_x rfl (wtd_none rfl) rfl (Rd.x (x_pick_t rfl rfl rfl)) ?_
    refine sr_x rfl (wtd_none rfl) rfl (Rd.x (x_assign rfl)) ?_
    refine sr_nil ?_
    refine aw_keep (keep_cons (t := 2) rfl (keep_cons (t := 3) rfl (keep_cons (t := 8) rfl (keep_cons (t := 10) rfl (keep_cons (t := 11) rfl (keep_cons (t := 12) rfl keep_nil)))))) ?_
    refine aw_ret ?_
    show ∃ v H2, ResV _ _ _ _ _ _ v ∧ Sub H2 _ ∧ _
    exact ⟨_, [], resV rfl (.cons rfl .nil), (Sub.nil _), rfl⟩
set_option maxRecDepth 100000 in
set_option maxHeartbeats 4000000 in
theorem planChoices_rng (n : Int) (sa : Option Addr) (scap : Nat) (sps : List PSpan) (hs0 : ∀ G, SlV W0 G 3 PSpan.cells sa scap sps) (d : Int) (ai : Option Addr) (ci : Nat) (l : List Item) (hi0 : ∀ G, SlV W0 G 4 Item.cells ai ci l) (hn : 0 ≤ n ∧ n ≤ 64) (hd : 1 ≤ d ∧ d ≤ 64) (hbad : ∃ x ∈ (l.take 12).take d.toNat, ¬ RightI x) : AC Try.prog W0 7 [.int .i64 n, .slice sa sps.length scap, .int .i64 d, .slice ai l.length ci] [] (fun v _ => v = .bool true) := by
  refine ac_of Try.func7 rfl rfl rfl ?_
  refine aw_seq_region ?_
  refine sr_x rfl (wtd_none rfl) rfl (Rd.x (x_assign rfl)) ?_
  refine sr_nil ?_
  refine aw_keep (keep_cons (t := 0) rfl (keep_cons (t := 1) rfl (keep_cons (t := 2) rfl (keep_cons (t := 3) rfl (keep_cons (t := 8) rfl keep_nil))))) ?_
  refine aw_seq_region ?_
  refine sr_x rfl (wtd_none rfl) rfl (Rd.x (x_move rfl)) ?_
  refine sr_d rfl (wtd_none rfl) rfl (opS_call rfl rfl rfl rfl cl42 (few12_s ai ci l _ (hi0 []).le (hi0 []).capb)) ?_
  rintro _ H9 ⟨rfl, rfl⟩
  obtain ⟨xs, hxs⟩ : ∃ xs, xs = l.take 12 := ⟨_, rfl⟩
  have hi : ∀ G, SlV W0 G 4 Item.cells ai ci xs := fun G => hxs ▸ (hi0 G).take 12
  have hx12 : xs.length ≤ 12 := by rw [hxs, List.length_take]; omega
  rw [← hxs]
  have hil := (hi []).le
  have hic := (hi []).capb
  rw [← hxs] at hbad
  refine sr_x rfl (wtd_none rfl) rfl (Rd.x (x_assign rfl)) ?_
  refine sr_nil ?_
  refine aw_keep (keep_cons (t := 0) rfl (keep_cons (t := 1) rfl (keep_cons (t := 2) rfl (keep_cons (t := 3) rfl (keep_cons (t := 8) rfl keep_nil))))) ?_
  refine aw_seq_region ?_
  refine sr_x rfl (wtd_none rfl) rfl (Rd.x (x_move rfl)) ?_
  refine sr_x rfl (wtd_none rfl) rfl (Rd.x (x_move rfl)) ?_
  refine sr_d rfl (wtd_none rfl) rfl (opS_call rfl rfl rfl rfl cl43 (made14_s n sa scap sps hs0 _ hn)) ?_
  rintro _ _ ⟨p, q, S, now, L, ver, a, cap, E, b, d', EL, rfl, hst, V, VL, rfl⟩
  have hsS := V.slv' (W0 := W0) (fun _ => rfl) rfl (Sub.refl _)
  have hsL := VL.slv' (W0 := W0) (fun _ => rfl) rfl (Sub.refl _)
  have hrep := hst.rep
  have hvr := hst.vr
  have hln := hst.ln
  have hsl := hst.sl
  have hps := rep_pos hrep
  have hnw := hst.nw
  refine sr_x rfl (wtd_none rfl) rfl (Rd.x (x_move rfl)) ?_
  refine sr_x rfl (wtd_none rfl) rfl (Rd.x (x_extract rfl rfl)) ?_
  refine sr_x rfl (wtd_none rfl) rfl (Rd.x (x_extract rfl rfl)) ?_
  refine sr_x rfl (wtd_none rfl) rfl (Rd.x (x_assign rfl)) ?_
  refine sr_x rfl (wtd_none rfl) rfl (Rd.x (x_assign rfl)) ?_
  refine sr_nil ?_
  refine aw_keep (keep_cons (t := 0) rfl (keep_cons (t := 2) rfl (keep_cons (t := 3) rfl (keep_cons (t := 8) rfl (keep_cons (t := 9) rfl (keep_cons (t := 10) rfl keep_nil)))))) ?_
  refine aw_seq ?_
  refine aw_seq_region ?_
  refine sr_x rfl (wtd_none rfl) rfl (Rd.x (x_move rfl)) ?_
  refine sr_x rfl (wtd_none rfl) rfl (Rd.x (x_eqnil Try.underlying23 rfl rfl)) ?_
  refine sr_x rfl (wtd_none rfl) rfl (Rd.x (x_move rfl)) ?_
  refine sr_x rfl (wtd_yes rfl rfl rfl) rfl (Rd.x (x_move rfl)) ?_
  refine sr_x rfl (wtd_yes rfl rfl rfl) rfl (Rd.x (x_eqnil Try.underlying24 rfl rfl)) ?_
  refine sr_x rfl (wtd_none rfl) rfl (Rd.x (x_pick_f rfl rfl rfl)) ?_
  refine sr_nil ?_
  refine aw_keep (keep_cons (t := 0) rfl (keep_cons (t := 2) rfl (keep_cons (t := 3) rfl (keep_cons (t := 8) rfl (keep_cons (t := 9) rfl (keep_cons (t := 10) rfl (keep_cons (t := 28) rfl keep_nil))))))) ?_
  refine aw_false rfl ?_
  refine aw_skip ?_
  show AW _ _ _ _ _ _ _
  refine aw_seq_region ?_
  refine sr_x rfl (wtd_none rfl) rfl (Rd.x (x_move rfl)) ?_
  refine sr_x rfl (wtd_none rfl) rfl (Rd.x (x_move rfl)) ?_
  refine sr_x rfl (wtd_none rfl) rfl (Rd.x (x_move rfl)) ?_
  refine sr_d rfl (wtd_none rfl) rfl (opS_call rfl rfl rfl rfl cl45 (yallRng_s p a cap S ver _ (cells_ext (by repeat (first | exact List.mem_cons_self | apply List.mem_cons_of_mem | apply List.mem_append_right)) (by repeat (first | exact Ext.all _ | exact Ext.done | apply Ext.take | apply Ext.skip))) (hsS.mono (Sub.takeE0 (by repeat (first | exact TakeE.here | apply TakeE.there | apply TakeE.app)))) hps (by omega) d ai ci xs (hi _) hd hbad)) ?_
  rintro _ H9 ⟨rfl, rfl⟩
  refine sr_x rfl (wtd_none rfl) rfl (Rd.x (x_move rfl)) ?_
  refine sr_x rfl (wtd_none rfl) rfl (Rd.x (x_extract rfl rfl)) ?_
  refine sr_x rfl (wtd_none rfl) rfl (Rd.x (x_extract rfl rfl)) ?_
  refine sr_x rfl (wtd_none rfl) rfl (Rd.x (x_assign rfl)) ?_
  refine sr_x rfl (wtd_none rfl) rfl (Rd.x (x_assign rfl)) ?_
  refine sr_nil ?_
  refine aw_keep (keep_cons (t := 2) rfl (keep_cons (t := 3) rfl (keep_cons (t := 8) rfl (keep_cons (t := 10) rfl (keep_cons (t := 11) rfl (keep_cons (t := 12) rfl keep_nil)))))) ?_
  refine aw_seq ?_
  refine aw_seq_region ?_
  refine sr_x rfl (wtd_none rfl) rfl (Rd.x (x_move rfl)) ?_
  refine sr_cmp rfl (wtd_none rfl) rfl (Rd.x (x_lt rfl rfl)) (fun h1 => absurd h1 (by first | omega | decide)) (fun h1 => ?_)
  refine sr_x rfl (wtd_none rfl) rfl (Rd.x (x_move rfl)) ?_
  refine sr_x rfl (wtd_yes rfl rfl rfl) rfl (Rd.x (x_move rfl)) ?_
  refine sr_cmp rfl (wtd_yes rfl rfl rfl) rfl (Rd.x (x_gt rfl rfl)) (fun h2 => absurd h2 (by first | omega | decide)) (fun h2 => ?_)
  refine sr_x rfl (wtd_none rfl) rfl (Rd.x (x_pick_f rfl rfl rfl)) ?_
  refine sr_nil ?_
  refine aw_keep (keep_cons (t := 2) rfl (keep_cons (t := 3) rfl (keep_cons (t := 8) rfl (keep_cons (t := 10) rfl (keep_cons (t := 11) rfl (keep_cons (t := 12) rfl (keep_cons (t := 50) rfl keep_nil))))))) ?_
  refine aw_false rfl ?_
  refine aw_skip ?_
  show AW _ _ _ _ _ _ _
  refine aw_join (ι := Unit) (fun _ => True) (fun _ => [(3, .slice ai (xs.take d.toNat).length ci), (8, .bool false), (10, .pointer (some ⟨q, 0, none⟩)), (11, .slice none 0 0), (12, .int .i64 5)]) (fun _ => (prB p (.slice a S.length cap) ver :: (E ++ (plB q n now (.slice b L.length d') ver :: (EL ++ []))))) ?_ ?_
  · refine aw_seq_region ?_
    refine sr_x rfl (wtd_none rfl) rfl (Rd.x (x_move rfl)) ?_
    refine sr_x rfl (wtd_none rfl) rfl (Rd.x (x_move rfl)) ?_
    refine sr_x rfl (wtd_none rfl) rfl (Rd.x (x_lenSlice Try.underlying58 rfl)) ?_
    refine sr_cmp rfl (wtd_none rfl) rfl (Rd.x (x_lt rfl rfl)) (fun h3 => ?_) (fun h3 => ?_)
    · refine sr_nil ?_
      refine aw_keep (keep_cons (t := 2) rfl (keep_cons (t := 3) rfl (keep_cons (t := 8) rfl (keep_cons (t := 10) rfl (keep_cons (t := 11) rfl (keep_cons (t := 12) rfl (keep_cons (t := 64) rfl keep_nil))))))) ?_
      refine aw_true rfl ?_
      refine aw_region ?_
      refine sr_x rfl (wtd_none rfl) rfl (Rd.x (x_move rfl)) ?_
      refine sr_x rfl (wtd_none rfl) rfl (Rd.x (x_move rfl)) ?_
      refine sr_x rfl (wtd_none rfl) rfl (Rd.x (x_sliceHi Try.underlying58 sz66 rfl rfl (by omega) (by omega))) ?_
      refine sr_x rfl (wtd_none rfl) rfl (Rd.x (x_assign rfl)) ?_
      refine sr_nil ?_
      show ∃ s', _ ∧ _ ∧ _
      exact ⟨(), trivial, (by first | (rw [show (xs.take d.toNat).length = d.toNat by rw [List.length_take]; omega]; exact (by (repeat (first | exact keep_nil | refine keep_cons rfl ?_)); first | done | fail)) | (rw [show (xs.take d.toNat).length = xs.length by rw [List.length_take]; omega]; exact (by (repeat (first | exact keep_nil | refine keep_cons rfl ?_)); first | done | fail))), Sub.autoP⟩
    · refine sr_nil ?_
      refine aw_keep (keep_cons (t := 2) rfl (keep_cons (t := 3) rfl (keep_cons (t := 8) rfl (keep_cons (t := 10) rfl (keep_cons (t := 11) rfl (keep_cons (t := 12) rfl (keep_cons (t := 64) rfl keep_nil))))))) ?_
      refine aw_false rfl ?_
      refine aw_skip ?_
      show ∃ s', _ ∧ _ ∧ _
      exact ⟨(), trivial, (by first | (rw [show (xs.take d.toNat).length = d.toNat by rw [List.length_take]; omega]; exact (by (repeat (first | exact keep_nil | refine keep_cons rfl ?_)); first | done | fail)) | (rw [show (xs.take d.toNat).length = xs.length by rw [List.length_take]; omega]; exact (by (repeat (first | exact keep_nil | refine keep_cons rfl ?_)); first | done | fail))), Sub.autoP⟩
  · intro _ _
    have hid : ∀ G, SlV W0 G 4 Item.cells ai ci (xs.take d.toNat) := fun G => (hi G).take d.toNat
    have hdl := (hid []).le
    have hd12 : (xs.take d.toNat).length ≤ 12 := by rw [List.length_take]; omega
    refine aw_seq ?_
    refine aw_seq_region ?_
    refine sr_x rfl (wtd_none rfl) rfl (Rd.x (x_assign rfl)) ?_
    refine sr_nil ?_
    refine aw_keep (keep_cons (t := 3) rfl (keep_cons (t := 8) rfl (keep_cons (t := 10) rfl (keep_cons (t := 11) rfl (keep_cons (t := 12) rfl (keep_cons (t := 13) rfl keep_nil)))))) ?_
    refine aw_block ?_
    refine aw_loop (ι := Nat) (fun k => k ≤ (xs.take d.toNat).length) (fun k => [(3, .slice ai (xs.take d.toNat).length ci), (8, .bool false), (10, .pointer (some ⟨q, 0, none⟩)), (11, .slice none 0 0), (12, .int .i64 5), (13, .int .i64 k)]) (fun _ => (prB p (.slice a S.length cap) ver :: (E ++ (plB q n now (.slice b L.length d') ver :: (EL ++ []))))) (fun k => (xs.take d.toNat).length - k) 0 (Nat.zero_le _) (by (repeat (first | exact keep_nil | refine keep_cons rfl ?_)); first | done | fail) Sub.autoP ?_
    intro k hk
    refine aw_seq ?_
    refine aw_seq_region ?_
    refine sr_x rfl (wtd_none rfl) rfl (Rd.x (x_move rfl)) ?_
    refine sr_x rfl (wtd_none rfl) rfl (Rd.x (x_move rfl)) ?_
    refine sr_x rfl (wtd_none rfl) rfl (Rd.x (x_lenSlice Try.underlying58 rfl)) ?_
    refine sr_cmp rfl (wtd_none rfl) rfl (Rd.x (x_lt rfl rfl)) (fun h4 => ?_) (fun h4 => ?_)
    · refine sr_nil ?_
      refine aw_keep (keep_cons (t := 3) rfl (keep_cons (t := 8) rfl (keep_cons (t := 10) rfl (keep_cons (t := 11) rfl (keep_cons (t := 12) rfl (keep_cons (t := 13) rfl (keep_cons (t := 68) rfl (keep_cons (t := 69) rfl (keep_cons (t := 70) rfl (keep_cons (t := 71) rfl keep_nil)))))))))) ?_
      refine aw_true rfl ?_
      refine aw_skip ?_
      show AW _ _ _ _ _ _ _
      refine aw_seq ?_
      refine aw_block ?_
      refine aw_seq_dr ⟨_, 11, 119, [[], [], [0, 1], [0, 1, 2], [0, 1, 2, 3], [], [], [5, 6], [5, 6, 7], [0, 1, 2, 3, 4, 5, 6, 7, 8], [0, 1, 2, 3, 4, 5, 6, 7, 8, 9]], [.light, .light, .light, .mem, .call, .light, .light, .light, .mem, .call, .light]⟩ (by kernel_rfl) rfl rfl mix ?_
      obtain ⟨x, hx⟩ := get_ex (show k < (xs.take d.toNat).length by omega)
      obtain ⟨bx, ox, hax, hcx⟩ := (hid []).at_ _ _ hx
      refine dr_light rfl rfl (wtd_none rfl) (x_move rfl) ?_
      refine dr_light rfl rfl (wtd_none rfl) (x_move rfl) ?_
      refine dr_light rfl rfl (wtd_none rfl) (x_indexAddrN (k) Try.underlying58 sz66 rfl hax rfl (by omega) (by omega)) ?_
      refine dr_mem0 rfl rfl (wtd_none rfl) (x_loadN ag66 sz66 rfl (Cells.mono hcx (Sub.nil _)) rfl) ?_
      refine dr_callq0 rfl rfl (wtd_none rfl) (opS_F rfl rfl rfl rfl cl46 ((pright_s x _))) (⟨_, rfl⟩) ?_
      rintro _ rfl
      refine dr_light rfl rfl (wtd_none rfl) (x_move rfl) ?_
      refine dr_light rfl rfl (wtd_none rfl) (x_move rfl) ?_
      refine dr_light rfl rfl (wtd_none rfl) (x_indexAddrN (k) Try.underlying58 sz66 rfl hax rfl (by omega) (by omega)) ?_
      refine dr_mem0 rfl rfl (wtd_none rfl) (x_loadN ag66 sz66 rfl (Cells.mono hcx (Sub.nil _)) rfl) ?_
      refine dr_callq0 rfl rfl (wtd_none rfl) (opS_F rfl rfl rfl rfl cl47 ((lright_s x _))) (⟨_, rfl⟩) ?_
      rintro _ rfl
      refine dr_light rfl rfl (wtd_none rfl) (x_cast (u := .bool false) (x_neb Try.underlying4 rfl rfl) (by simp)) ?_
      refine dr_nil0 ?_
      refine aw_keep (keep_cons (t := 3) rfl (keep_cons (t := 8) rfl (keep_cons (t := 10) rfl (keep_cons (t := 11) rfl (keep_cons (t := 12) rfl (keep_cons (t := 13) rfl (keep_cons (t := 68) rfl (keep_cons (t := 69) rfl (keep_cons (t := 70) rfl (keep_cons (t := 71) rfl (keep_cons (t := 74) rfl (keep_cons (t := 75) rfl (keep_cons (t := 76) rfl (keep_cons (t := 77) rfl (keep_cons (t := 78) rfl (keep_cons (t := 79) rfl (keep_cons (t := 80) rfl (keep_cons (t := 81) rfl (keep_cons (t := 82) rfl (keep_cons (t := 83) rfl (keep_cons (t := 84) rfl keep_nil))))))))))))))))))))) ?_
      refine aw_false rfl ?_
      refine aw_skip ?_
      show AW _ _ _ _ _ _ _
      refine aw_region ?_
      refine sr_x rfl (wtd_none rfl) rfl (Rd.x (x_move rfl)) ?_
      refine sr_x rfl (wtd_none rfl) rfl (Rd.x (x_add' rfl rfl (i64w (by omega) (by omega)))) ?_
      refine sr_x rfl (wtd_none rfl) rfl (Rd.x (x_assign rfl)) ?_
      refine sr_nil ?_
      show ∃ s', _ ∧ _ ∧ _ ∧ _
      exact ⟨k + 1, by omega, by omega, (by (repeat (first | exact keep_nil | refine keep_cons rfl ?_)); first | done | fail), Sub.autoP⟩
    · refine sr_nil ?_
      refine aw_keep (keep_cons (t := 3) rfl (keep_cons (t := 8) rfl (keep_cons (t := 10) rfl (keep_cons (t := 11) rfl (keep_cons (t := 12) rfl (keep_cons (t := 13) rfl (keep_cons (t := 68) rfl (keep_cons (t := 69) rfl (keep_cons (t := 70) rfl (keep_cons (t := 71) rfl keep_nil)))))))))) ?_
      refine aw_false rfl ?_
      refine aw_exit ?_
      show AW _ _ _ _ _ _ _
      refine aw_seq ?_
      refine aw_seq_region ?_
      refine sr_x rfl (wtd_none rfl) rfl (Rd.x (x_assign rfl)) ?_
      refine sr_nil ?_
      refine aw_keep (keep_cons (t := 3) rfl (keep_cons (t := 8) rfl (keep_cons (t := 10) rfl (keep_cons (t := 11) rfl (keep_cons (t := 12) rfl (keep_cons (t := 14) rfl keep_nil)))))) ?_
      refine aw_block ?_
      refine aw_loop (ι := Nat) (fun k => k ≤ (xs.take d.toNat).length ∧ ∀ (j : Nat) (x : Item), j < k → (xs.take d.toNat)[j]? = some x → RightI x) (fun k => [(3, .slice ai (xs.take d.toNat).length ci), (8, .bool false), (10, .pointer (some ⟨q, 0, none⟩)), (11, .slice none 0 0), (12, .int .i64 5), (14, .int .i64 k)]) (fun _ => (prB p (.slice a S.length cap) ver :: (E ++ (plB q n now (.slice b L.length d') ver :: (EL ++ []))))) (fun k => (xs.take d.toNat).length - k) 0 (⟨Nat.zero_le _, fun j x h => by omega⟩) (by (repeat (first | exact keep_nil | refine keep_cons rfl ?_)); first | done | fail) Sub.autoP ?_
      intro k hk9
      obtain ⟨hk, hall⟩ := hk9
      refine aw_seq ?_
      refine aw_seq_region ?_
      refine sr_x rfl (wtd_none rfl) rfl (Rd.x (x_move rfl)) ?_
      refine sr_x rfl (wtd_none rfl) rfl (Rd.x (x_move rfl)) ?_
      refine sr_x rfl (wtd_none rfl) rfl (Rd.x (x_lenSlice Try.underlying58 rfl)) ?_
      refine sr_cmp rfl (wtd_none rfl) rfl (Rd.x (x_lt rfl rfl)) (fun h5 => ?_) (fun h5 => ?_)
      · refine sr_nil ?_
        refine aw_keep (keep_cons (t := 3) rfl (keep_cons (t := 8) rfl (keep_cons (t := 10) rfl (keep_cons (t := 11) rfl (keep_cons (t := 12) rfl (keep_cons (t := 14) rfl (keep_cons (t := 85) rfl (keep_cons (t := 86) rfl (keep_cons (t := 87) rfl (keep_cons (t := 88) rfl keep_nil)))))))))) ?_
        refine aw_true rfl ?_
        refine aw_skip ?_
        show AW _ _ _ _ _ _ _
        refine aw_seq ?_
        refine aw_block ?_
        refine aw_seq_region ?_
        obtain ⟨x, hx⟩ := get_ex (show k < (xs.take d.toNat).length by omega)
        obtain ⟨bx, ox, hax, hcx⟩ := (hid []).at_ _ _ hx
        refine sr_x rfl (wtd_none rfl) rfl (Rd.x (x_move rfl)) ?_
        refine sr_x rfl (wtd_none rfl) rfl (Rd.x (x_move rfl)) ?_
        refine sr_x rfl (wtd_none rfl) rfl (Rd.x (x_indexAddrN (k) Try.underlying58 sz66 rfl hax rfl (by omega) (by omega))) ?_
        refine sr_x rfl (wtd_none rfl) rfl (Rd.x (x_loadN ag66 sz66 rfl (Cells.mono hcx (Sub.nil _)) rfl)) ?_
        refine sr_d rfl (wtd_none rfl) rfl (opS_call rfl rfl rfl rfl cl47 (lright_s x _)) ?_
        rintro _ H9 ⟨rfl, rfl⟩
        generalize hd1 : decide (RightI x) = d1
        cases d1
        · refine sr_x rfl (wtd_none rfl) rfl (Rd.x (x_not rfl)) ?_
          refine sr_nil ?_
          refine aw_keep (keep_cons (t := 3) rfl (keep_cons (t := 8) rfl (keep_cons (t := 10) rfl (keep_cons (t := 11) rfl (keep_cons (t := 12) rfl (keep_cons (t := 14) rfl (keep_cons (t := 85) rfl (keep_cons (t := 86) rfl (keep_cons (t := 87) rfl (keep_cons (t := 88) rfl (keep_cons (t := 91) rfl (keep_cons (t := 92) rfl (keep_cons (t := 93) rfl (keep_cons (t := 94) rfl (keep_cons (t := 95) rfl (keep_cons (t := 96) rfl keep_nil)))))))))))))))) ?_
          refine aw_true rfl ?_
          refine aw_seq_region ?_
          refine sr_x rfl (wtd_none rfl) rfl (Rd.x (x_move rfl)) ?_
          refine sr_x rfl (wtd_none rfl) rfl (Rd.x (x_lenSlice Try.underlying61 rfl)) ?_
          refine sr_cmp rfl (wtd_none rfl) rfl (Rd.x (x_eq rfl rfl)) (fun h6 => ?_) (fun h6 => absurd (by first | omega | decide) h6)
          refine sr_x rfl (wtd_none rfl) rfl (Rd.x (x_move rfl)) ?_
          refine sr_x rfl (wtd_yes rfl rfl rfl) rfl (Rd.x (x_move rfl)) ?_
          refine sr_cmp rfl (wtd_yes rfl rfl rfl) rfl (Rd.x (x_eq rfl rfl)) (fun h7 => ?_) (fun h7 => absurd (by first | omega | decide) h7)
          refine sr_x rfl (wtd_none rfl) rfl (Rd.x (x_pick_t rfl rfl rfl)) ?_
          refine sr_x rfl (wtd_none rfl) rfl (Rd.x (x_move rfl)) ?_
          refine sr_d rfl (wtd_yes rfl rfl rfl) rfl (opS_call rfl rfl rfl rfl cl44 (awake14_s _)) ?_
          rintro _ H9 ⟨rfl, rfl⟩
          refine sr_x rfl (wtd_none rfl) rfl (Rd.x (x_pick_t rfl rfl rfl)) ?_
          refine sr_x rfl (wtd_none rfl) rfl (Rd.x (x_assign rfl)) ?_
          refine sr_nil ?_
          refine aw_keep (keep_cons (t := 3) rfl (keep_cons (t := 8) rfl (keep_cons (t := 10) rfl (keep_cons (t := 11) rfl (keep_cons (t := 12) rfl (keep_cons (t := 14) rfl (keep_cons (t := 85) rfl (keep_cons (t := 86) rfl (keep_cons (t := 87) rfl (keep_cons (t := 88) rfl (keep_cons (t := 91) rfl (keep_cons (t := 92) rfl (keep_cons (t := 93) rfl (keep_cons (t := 94) rfl (keep_cons (t := 95) rfl (keep_cons (t := 96) rfl (keep_cons (t := 97) rfl (keep_cons (t := 98) rfl (keep_cons (t := 99) rfl (keep_cons (t := 100) rfl (keep_cons (t := 101) rfl (keep_cons (t := 102) rfl (keep_cons (t := 103) rfl (keep_cons (t := 104) rfl (keep_cons (t := 105) rfl (keep_cons (t := 106) rfl keep_nil)))))))))))))))))))))))))) ?_
          refine aw_ret ?_
          show ∃ v H2, ResV _ _ _ _ _ _ v ∧ Sub H2 _ ∧ _
          exact ⟨_, [], resV rfl (.cons rfl .nil), (Sub.nil _), (by first | rfl | (exfalso; obtain ⟨x, hx, hnx⟩ := hbad; obtain ⟨j, hj⟩ := List.getElem?_of_mem hx; exact hnx (hall j x (by have := get_lt hj; omega) hj)))⟩
        · refine sr_x rfl (wtd_none rfl) rfl (Rd.x (x_not rfl)) ?_
          refine sr_nil ?_
          refine aw_keep (keep_cons (t := 3) rfl (keep_cons (t := 8) rfl (keep_cons (t := 10) rfl (keep_cons (t := 11) rfl (keep_cons (t := 12) rfl (keep_cons (t := 14) rfl (keep_cons (t := 85) rfl (keep_cons (t := 86) rfl (keep_cons (t := 87) rfl (keep_cons (t := 88) rfl (keep_cons (t := 91) rfl (keep_cons (t := 92) rfl (keep_cons (t := 93) rfl (keep_cons (t := 94) rfl (keep_cons (t := 95) rfl (keep_cons (t := 96) rfl keep_nil)))))))))))))))) ?_
          refine aw_false rfl ?_
          refine aw_skip ?_
          show AW _ _ _ _ _ _ _
          refine aw_region ?_
          refine sr_x rfl (wtd_none rfl) rfl (Rd.x (x_move rfl)) ?_
          refine sr_x rfl (wtd_none rfl) rfl (Rd.x (x_add' rfl rfl (i64w (by omega) (by omega)))) ?_
          refine sr_x rfl (wtd_none rfl) rfl (Rd.x (x_assign rfl)) ?_
          refine sr_nil ?_
          show ∃ s', _ ∧ _ ∧ _ ∧ _
          exact ⟨k + 1, ⟨by omega, fun j y h hy => by (rcases Nat.lt_or_eq_of_le (Nat.le_of_lt_succ h) with q9 | q9); (exact hall j y q9 hy); (subst q9; rw [hx] at hy; cases hy; exact of_decide_eq_true hd1)⟩, by omega, (by (repeat (first | exact keep_nil | refine keep_cons rfl ?_)); first | done | fail), Sub.autoP⟩
      · refine sr_nil ?_
        refine aw_keep (keep_cons (t := 3) rfl (keep_cons (t := 8) rfl (keep_cons (t := 10) rfl (keep_cons (t := 11) rfl (keep_cons (t := 12) rfl (keep_cons (t := 14) rfl (keep_cons (t := 85) rfl (keep_cons (t := 86) rfl (keep_cons (t := 87) rfl (keep_cons (t := 88) rfl keep_nil)))))))))) ?_
        refine aw_false rfl ?_
        refine aw_exit ?_
        show AW _ _ _ _ _ _ _
        refine aw_seq_region ?_
        refine sr_x rfl (wtd_none rfl) rfl (Rd.x (x_move rfl)) ?_
        refine sr_cmp rfl (wtd_none rfl) rfl (Rd.x (x_eq rfl rfl)) (fun h8 => absurd h8 (by first | omega | decide)) (fun h8 => ?_)
        refine sr_x rfl (wtd_none rfl) rfl (Rd.x (x_move rfl)) ?_
        refine sr_skip rfl (wtd_no rfl rfl rfl rfl) rfl ?_
        refine sr_skip rfl (wtd_no rfl rfl rfl rfl) rfl ?_
        refine sr_skip rfl (wtd_no rfl rfl rfl rfl) rfl ?_
        refine sr_skip rfl (wtd_no rfl rfl rfl rfl) rfl ?_
        refine sr_skip rfl (wtd_no rfl rfl rfl rfl) rfl ?_
        refine sr_x rfl (wtd_none rfl) rfl (Rd.x (x_pick_f rfl rfl rfl)) ?_
        refine sr_x rfl (wtd_none rfl) rfl (Rd.x (x_move rfl)) ?_
        refine sr_skip rfl (wtd_no rfl rfl rfl rfl) rfl ?_
        refine sr_x rfl (wtd_none rfl) rfl (Rd.x (x_pick_f rfl rfl rfl)) ?_
        refine sr_x rfl (wtd_none rfl) rfl (Rd.x (x_assign rfl)) ?_
        refine sr_nil ?_
        refine aw_keep (keep_cons (t := 8) rfl keep_nil) ?_
        refine aw_ret ?_
        show ∃ v H2, ResV _ _ _ _ _ _ v ∧ Sub H2 _ ∧ _
        exact ⟨_, [], resV rfl (.cons rfl .nil), (Sub.nil _), (by first | rfl | (exfalso; obtain ⟨x, hx, hnx⟩ := hbad; obtain ⟨j, hj⟩ := List.getElem?_of_mem hx; exact hnx (hall j x (by have := get_lt hj; omega) hj)))⟩
set_option maxRecDepth 100000 in
set_option maxHeartbeats 4000000 in
theorem planChoices_ok (n : Int) (sa : Option Addr) (scap : Nat) (sps : List PSpan) (hs0 : ∀ G, SlV W0 G 3 PSpan.cells sa scap sps) (d : Int) (ai : Option Addr) (ci : Nat) (l : List Item) (hi0 : ∀ G, SlV W0 G 4 Item.cells ai ci l) (hn : 0 ≤ n ∧ n ≤ 64) (hd : 1 ≤ d ∧ d ≤ 64) (hok : ∀ x ∈ (l.take 12).take d.toNat, RightI x) : AC Try.prog W0 7 [.int .i64 n, .slice sa sps.length scap, .int .i64 d, .slice ai l.length ci] [] (fun v _ => v = .bool true) := by
  refine ac_of Try.func7 rfl rfl rfl ?_
  refine aw_seq_region ?_
  refine sr_x rfl (wtd_none rfl) rfl (Rd.x (x_assign rfl)) ?_
  refine sr_nil ?_
  refine aw_keep (keep_cons (t := 0) rfl (keep_cons (t := 1) rfl (keep_cons (t := 2) rfl (keep_cons (t := 3) rfl (keep_cons (t := 8) rfl keep_nil))))) ?_
  refine aw_seq_region ?_
  refine sr_x rfl (wtd_none rfl) rfl (Rd.x (x_move rfl)) ?_
  refine sr_d rfl (wtd_none rfl) rfl (opS_call rfl rfl rfl rfl cl42 (few12_s ai ci l _ (hi0 []).le (hi0 []).capb)) ?_
  rintro _ H9 ⟨rfl, rfl⟩
  obtain ⟨xs, hxs⟩ : ∃ xs, xs = l.take 12 := ⟨_, rfl⟩
  have hi : ∀ G, SlV W0 G 4 Item.cells ai ci xs := fun G => hxs ▸ (hi0 G).take 12
  have hx12 : xs.length ≤ 12 := by rw [hxs, List.length_take]; omega
  rw [← hxs]
  have hil := (hi []).le
  have hic := (hi []).capb
  rw [← hxs] at hok
  refine sr_x rfl (wtd_none rfl) rfl (Rd.x (x_assign rfl)) ?_
  refine sr_nil ?_
  refine aw_keep (keep_cons (t := 0) rfl (keep_cons (t := 1) rfl (keep_cons (t := 2) rfl (keep_cons (t := 3) rfl (keep_cons (t := 8) rfl keep_nil))))) ?_
  refine aw_seq_region ?_
  refine sr_x rfl (wtd_none rfl) rfl (Rd.x (x_move rfl)) ?_
  refine sr_x rfl (wtd_none rfl) rfl (Rd.x (x_move rfl)) ?_
  refine sr_d rfl (wtd_none rfl) rfl (opS_call rfl rfl rfl rfl cl43 (made14_s n sa scap sps hs0 _ hn)) ?_
  rintro _ _ ⟨p, q, S, now, L, ver, a, cap, E, b, d', EL, rfl, hst, V, VL, rfl⟩
  have hsS := V.slv' (W0 := W0) (fun _ => rfl) rfl (Sub.refl _)
  have hsL := VL.slv' (W0 := W0) (fun _ => rfl) rfl (Sub.refl _)
  have hrep := hst.rep
  have hvr := hst.vr
  have hln := hst.ln
  have hsl := hst.sl
  have hps := rep_pos hrep
  have hnw := hst.nw
  refine sr_x rfl (wtd_none rfl) rfl (Rd.x (x_move rfl)) ?_
  refine sr_x rfl (wtd_none rfl) rfl (Rd.x (x_extract rfl rfl)) ?_
  refine sr_x rfl (wtd_none rfl) rfl (Rd.x (x_extract rfl rfl)) ?_
  refine sr_x rfl (wtd_none rfl) rfl (Rd.x (x_assign rfl)) ?_
  refine sr_x rfl (wtd_none rfl) rfl (Rd.x (x_assign rfl)) ?_
  refine sr_nil ?_
  refine aw_keep (keep_cons (t := 0) rfl (keep_cons (t := 2) rfl (keep_cons (t := 3) rfl (keep_cons (t := 8) rfl (keep_cons (t := 9) rfl (keep_cons (t := 10) rfl keep_nil)))))) ?_
  refine aw_seq ?_
  refine aw_seq_region ?_
  refine sr_x rfl (wtd_none rfl) rfl (Rd.x (x_move rfl)) ?_
  refine sr_x rfl (wtd_none rfl) rfl (Rd.x (x_eqnil Try.underlying23 rfl rfl)) ?_
  refine sr_x rfl (wtd_none rfl) rfl (Rd.x (x_move rfl)) ?_
  refine sr_x rfl (wtd_yes rfl rfl rfl) rfl (Rd.x (x_move rfl)) ?_
  refine sr_x rfl (wtd_yes rfl rfl rfl) rfl (Rd.x (x_eqnil Try.underlying24 rfl rfl)) ?_
  refine sr_x rfl (wtd_none rfl) rfl (Rd.x (x_pick_f rfl rfl rfl)) ?_
  refine sr_nil ?_
  refine aw_keep (keep_cons (t := 0) rfl (keep_cons (t := 2) rfl (keep_cons (t := 3) rfl (keep_cons (t := 8) rfl (keep_cons (t := 9) rfl (keep_cons (t := 10) rfl (keep_cons (t := 28) rfl keep_nil))))))) ?_
  refine aw_false rfl ?_
  refine aw_skip ?_
  show AW _ _ _ _ _ _ _
  refine aw_seq_region ?_
  refine sr_x rfl (wtd_none rfl) rfl (Rd.x (x_move rfl)) ?_
  refine sr_x rfl (wtd_none rfl) rfl (Rd.x (x_move rfl)) ?_
  refine sr_x rfl (wtd_none rfl) rfl (Rd.x (x_move rfl)) ?_
  refine sr_d rfl (wtd_none rfl) rfl (opS_call rfl rfl rfl rfl cl45 (yall_s p a cap S ver _ (cells_ext (by repeat (first | exact List.mem_cons_self | apply List.mem_cons_of_mem | apply List.mem_append_right)) (by repeat (first | exact Ext.all _ | exact Ext.done | apply Ext.take | apply Ext.skip))) (hsS.mono (Sub.takeE0 (by repeat (first | exact TakeE.here | apply TakeE.there | apply TakeE.app)))) hps (by omega) d ai ci xs (hi _) hd hok now (atP n L) hrep hst.rng hnw (by omega) (by omega))) ?_
  rintro _ _ ⟨cs, f', E2, a2, c2, rfl, hpl, V2, hcl, rfl⟩
  have hsc := V2.slv' (W0 := W0) (fun _ => rfl) rfl (Sub.refl _)
  have hcsl := hsc.le
  have hcsb := hsc.capb
  refine sr_x rfl (wtd_none rfl) rfl (Rd.x (x_move rfl)) ?_
  refine sr_x rfl (wtd_none rfl) rfl (Rd.x (x_extract rfl rfl)) ?_
  refine sr_x rfl (wtd_none rfl) rfl (Rd.x (x_extract rfl rfl)) ?_
  refine sr_x rfl (wtd_none rfl) rfl (Rd.x (x_assign rfl)) ?_
  refine sr_x rfl (wtd_none rfl) rfl (Rd.x (x_assign rfl)) ?_
  refine sr_nil ?_
  refine aw_keep (keep_cons (t := 2) rfl (keep_cons (t := 3) rfl (keep_cons (t := 8) rfl (keep_cons (t := 10) rfl (keep_cons (t := 11) rfl (keep_cons (t := 12) rfl keep_nil)))))) ?_
  refine aw_seq ?_
  refine aw_seq_region ?_
  refine sr_x rfl (wtd_none rfl) rfl (Rd.x (x_move rfl)) ?_
  refine sr_cmp rfl (wtd_none rfl) rfl (Rd.x (x_lt rfl rfl)) (fun h1 => absurd h1 (by first | omega | decide)) (fun h1 => ?_)
  refine sr_x rfl (wtd_none rfl) rfl (Rd.x (x_move rfl)) ?_
  refine sr_x rfl (wtd_yes rfl rfl rfl) rfl (Rd.x (x_move rfl)) ?_
  refine sr_cmp rfl (wtd_yes rfl rfl rfl) rfl (Rd.x (x_gt rfl rfl)) (fun h2 => absurd h2 (by first | omega | decide)) (fun h2 => ?_)
  refine sr_x rfl (wtd_none rfl) rfl (Rd.x (x_pick_f rfl rfl rfl)) ?_
  refine sr_nil ?_
  refine aw_keep (keep_cons (t := 2) rfl (keep_cons (t := 3) rfl (keep_cons (t := 8) rfl (keep_cons (t := 10) rfl (keep_cons (t := 11) rfl (keep_cons (t := 12) rfl (keep_cons (t := 50) rfl keep_nil))))))) ?_
  refine aw_false rfl ?_
  refine aw_skip ?_
  show AW _ _ _ _ _ _ _
  refine aw_join (ι := Unit) (fun _ => True) (fun _ => [(3, .slice ai (xs.take d.toNat).length ci), (8, .bool false), (10, .pointer (some ⟨q, 0, none⟩)), (11, .slice a2 cs.length c2), (12, .int .i64 0)]) (fun _ => E2 ++ (prB p (.slice a S.length cap) ver :: (E ++ (plB q n now (.slice b L.length d') ver :: (EL ++ []))))) ?_ ?_
  · refine aw_seq_region ?_
    refine sr_x rfl (wtd_none rfl) rfl (Rd.x (x_move rfl)) ?_
    refine sr_x rfl (wtd_none rfl) rfl (Rd.x (x_move rfl)) ?_
    refine sr_x rfl (wtd_none rfl) rfl (Rd.x (x_lenSlice Try.underlying58 rfl)) ?_
    refine sr_cmp rfl (wtd_none rfl) rfl (Rd.x (x_lt rfl rfl)) (fun h3 => ?_) (fun h3 => ?_)
    · refine sr_nil ?_
      refine aw_keep (keep_cons (t := 2) rfl (keep_cons (t := 3) rfl (keep_cons (t := 8) rfl (keep_cons (t := 10) rfl (keep_cons (t := 11) rfl (keep_cons (t := 12) rfl (keep_cons (t := 64) rfl keep_nil))))))) ?_
      refine aw_true rfl ?_
      refine aw_region ?_
      refine sr_x rfl (wtd_none rfl) rfl (Rd.x (x_move rfl)) ?_
      refine sr_x rfl (wtd_none rfl) rfl (Rd.x (x_move rfl)) ?_
      refine sr_x rfl (wtd_none rfl) rfl (Rd.x (x_sliceHi Try.underlying58 sz66 rfl rfl (by omega) (by omega))) ?_
      refine sr_x rfl (wtd_none rfl) rfl (Rd.x (x_assign rfl)) ?_
      refine sr_nil ?_
      show ∃ s', _ ∧ _ ∧ _
      exact ⟨(), trivial, (by first | (rw [show (xs.take d.toNat).length = d.toNat by rw [List.length_take]; omega]; exact (by (repeat (first | exact keep_nil | refine keep_cons rfl ?_)); first | done | fail)) | (rw [show (xs.take d.toNat).length = xs.length by rw [List.length_take]; omega]; exact (by (repeat (first | exact keep_nil | refine keep_cons rfl ?_)); first | done | fail))), Sub.autoP⟩
    · refine sr_nil ?_
      refine aw_keep (keep_cons (t := 2) rfl (keep_cons (t := 3) rfl (keep_cons (t := 8) rfl (keep_cons (t := 10) rfl (keep_cons (t := 11) rfl (keep_cons (t := 12) rfl (keep_cons (t := 64) rfl keep_nil))))))) ?_
      refine aw_false rfl ?_
      refine aw_skip ?_
      show ∃ s', _ ∧ _ ∧ _
      exact ⟨(), trivial, (by first | (rw [show (xs.take d.toNat).length = d.toNat by rw [List.length_take]; omega]; exact (by (repeat (first | exact keep_nil | refine keep_cons rfl ?_)); first | done | fail)) | (rw [show (xs.take d.toNat).length = xs.length by rw [List.length_take]; omega]; exact (by (repeat (first | exact keep_nil | refine keep_cons rfl ?_)); first | done | fail))), Sub.autoP⟩
  · intro _ _
    have hid : ∀ G, SlV W0 G 4 Item.cells ai ci (xs.take d.toNat) := fun G => (hi G).take d.toNat
    have hdl := (hid []).le
    have hd12 : (xs.take d.toNat).length ≤ 12 := by rw [List.length_take]; omega
    refine aw_seq ?_
    refine aw_seq_region ?_
    refine sr_x rfl (wtd_none rfl) rfl (Rd.x (x_assign rfl)) ?_
    refine sr_nil ?_
    refine aw_keep (keep_cons (t := 3) rfl (keep_cons (t := 8) rfl (keep_cons (t := 10) rfl (keep_cons (t := 11) rfl (keep_cons (t := 12) rfl (keep_cons (t := 13) rfl keep_nil)))))) ?_
    refine aw_block ?_
    refine aw_loop (ι := Nat) (fun k => k ≤ (xs.take d.toNat).length) (fun k => [(3, .slice ai (xs.take d.toNat).length ci), (8, .bool false), (10, .pointer (some ⟨q, 0, none⟩)), (11, .slice a2 cs.length c2), (12, .int .i64 0), (13, .int .i64 k)]) (fun _ => E2 ++ (prB p (.slice a S.length cap) ver :: (E ++ (plB q n now (.slice b L.length d') ver :: (EL ++ []))))) (fun k => (xs.take d.toNat).length - k) 0 (Nat.zero_le _) (by (repeat (first | exact keep_nil | refine keep_cons rfl ?_)); first | done | fail) Sub.autoP ?_
    intro k hk
    refine aw_seq ?_
    refine aw_seq_region ?_
    refine sr_x rfl (wtd_none rfl) rfl (Rd.x (x_move rfl)) ?_
    refine sr_x rfl (wtd_none rfl) rfl (Rd.x (x_move rfl)) ?_
    refine sr_x rfl (wtd_none rfl) rfl (Rd.x (x_lenSlice Try.underlying58 rfl)) ?_
    refine sr_cmp rfl (wtd_none rfl) rfl (Rd.x (x_lt rfl rfl)) (fun h4 => ?_) (fun h4 => ?_)
    · refine sr_nil ?_
      refine aw_keep (keep_cons (t := 3) rfl (keep_cons (t := 8) rfl (keep_cons (t := 10) rfl (keep_cons (t := 11) rfl (keep_cons (t := 12) rfl (keep_cons (t := 13) rfl (keep_cons (t := 68) rfl (keep_cons (t := 69) rfl (keep_cons (t := 70) rfl (keep_cons (t := 71) rfl keep_nil)))))))))) ?_
      refine aw_true rfl ?_
      refine aw_skip ?_
      show AW _ _ _ _ _ _ _
      refine aw_seq ?_
      refine aw_block ?_
      refine aw_seq_dr ⟨_, 11, 119, [[], [], [0, 1], [0, 1, 2], [0, 1, 2, 3], [], [], [5, 6], [5, 6, 7], [0, 1, 2, 3, 4, 5, 6, 7, 8], [0, 1, 2, 3, 4, 5, 6, 7, 8, 9]], [.light, .light, .light, .mem, .call, .light, .light, .light, .mem, .call, .light]⟩ (by kernel_rfl) rfl rfl mix ?_
      obtain ⟨x, hx⟩ := get_ex (show k < (xs.take d.toNat).length by omega)
      obtain ⟨bx, ox, hax, hcx⟩ := (hid []).at_ _ _ hx
      refine dr_light rfl rfl (wtd_none rfl) (x_move rfl) ?_
      refine dr_light rfl rfl (wtd_none rfl) (x_move rfl) ?_
      refine dr_light rfl rfl (wtd_none rfl) (x_indexAddrN (k) Try.underlying58 sz66 rfl hax rfl (by omega) (by omega)) ?_
      refine dr_mem0 rfl rfl (wtd_none rfl) (x_loadN ag66 sz66 rfl (Cells.mono hcx (Sub.nil _)) rfl) ?_
      refine dr_callq0 rfl rfl (wtd_none rfl) (opS_F rfl rfl rfl rfl cl46 ((pright_s x _))) (⟨_, rfl⟩) ?_
      rintro _ rfl
      refine dr_light rfl rfl (wtd_none rfl) (x_move rfl) ?_
      refine dr_light rfl rfl (wtd_none rfl) (x_move rfl) ?_
      refine dr_light rfl rfl (wtd_none rfl) (x_indexAddrN (k) Try.underlying58 sz66 rfl hax rfl (by omega) (by omega)) ?_
      refine dr_mem0 rfl rfl (wtd_none rfl) (x_loadN ag66 sz66 rfl (Cells.mono hcx (Sub.nil _)) rfl) ?_
      refine dr_callq0 rfl rfl (wtd_none rfl) (opS_F rfl rfl rfl rfl cl47 ((lright_s x _))) (⟨_, rfl⟩) ?_
      rintro _ rfl
      refine dr_light rfl rfl (wtd_none rfl) (x_cast (u := .bool false) (x_neb Try.underlying4 rfl rfl) (by simp)) ?_
      refine dr_nil0 ?_
      refine aw_keep (keep_cons (t := 3) rfl (keep_cons (t := 8) rfl (keep_cons (t := 10) rfl (keep_cons (t := 11) rfl (keep_cons (t := 12) rfl (keep_cons (t := 13) rfl (keep_cons (t := 68) rfl (keep_cons (t := 69) rfl (keep_cons (t := 70) rfl (keep_cons (t := 71) rfl (keep_cons (t := 74) rfl (keep_cons (t := 75) rfl (keep_cons (t := 76) rfl (keep_cons (t := 77) rfl (keep_cons (t := 78) rfl (keep_cons (t := 79) rfl (keep_cons (t := 80) rfl (keep_cons (t := 81) rfl (keep_cons (t := 82) rfl (keep_cons (t := 83) rfl (keep_cons (t := 84) rfl keep_nil))))))))))))))))))))) ?_
      refine aw_false rfl ?_
      refine aw_skip ?_
      show AW _ _ _ _ _ _ _
      refine aw_region ?_
      refine sr_x rfl (wtd_none rfl) rfl (Rd.x (x_move rfl)) ?_
      refine sr_x rfl (wtd_none rfl) rfl (Rd.x (x_add' rfl rfl (i64w (by omega) (by omega)))) ?_
      refine sr_x rfl (wtd_none rfl) rfl (Rd.x (x_assign rfl)) ?_
      refine sr_nil ?_
      show ∃ s', _ ∧ _ ∧ _ ∧ _
      exact ⟨k + 1, by omega, by omega, (by (repeat (first | exact keep_nil | refine keep_cons rfl ?_)); first | done | fail), Sub.autoP⟩
    · refine sr_nil ?_
      refine aw_keep (keep_cons (t := 3) rfl (keep_cons (t := 8) rfl (keep_cons (t := 10) rfl (keep_cons (t := 11) rfl (keep_cons (t := 12) rfl (keep_cons (t := 13) rfl (keep_cons (t := 68) rfl (keep_cons (t := 69) rfl (keep_cons (t := 70) rfl (keep_cons (t := 71) rfl keep_nil)))))))))) ?_
      refine aw_false rfl ?_
      refine aw_exit ?_
      show AW _ _ _ _ _ _ _
      refine aw_seq ?_
      refine aw_seq_region ?_
      refine sr_x rfl (wtd_none rfl) rfl (Rd.x (x_assign rfl)) ?_
      refine sr_nil ?_
      refine aw_keep (keep_cons (t := 3) rfl (keep_cons (t := 8) rfl (keep_cons (t := 10) rfl (keep_cons (t := 11) rfl (keep_cons (t := 12) rfl (keep_cons (t := 14) rfl keep_nil)))))) ?_
      refine aw_block ?_
      refine aw_loop (ι := Nat) (fun k => k ≤ (xs.take d.toNat).length ∧ ∀ (j : Nat) (x : Item), j < k → (xs.take d.toNat)[j]? = some x → RightI x) (fun k => [(3, .slice ai (xs.take d.toNat).length ci), (8, .bool false), (10, .pointer (some ⟨q, 0, none⟩)), (11, .slice a2 cs.length c2), (12, .int .i64 0), (14, .int .i64 k)]) (fun _ => E2 ++ (prB p (.slice a S.length cap) ver :: (E ++ (plB q n now (.slice b L.length d') ver :: (EL ++ []))))) (fun k => (xs.take d.toNat).length - k) 0 (⟨Nat.zero_le _, fun j x h => by omega⟩) (by (repeat (first | exact keep_nil | refine keep_cons rfl ?_)); first | done | fail) Sub.autoP ?_
      intro k hk9
      obtain ⟨hk, hall⟩ := hk9
      refine aw_seq ?_
      refine aw_seq_region ?_
      refine sr_x rfl (wtd_none rfl) rfl (Rd.x (x_move rfl)) ?_
      refine sr_x rfl (wtd_none rfl) rfl (Rd.x (x_move rfl)) ?_
      refine sr_x rfl (wtd_none rfl) rfl (Rd.x (x_lenSlice Try.underlying58 rfl)) ?_
      refine sr_cmp rfl (wtd_none rfl) rfl (Rd.x (x_lt rfl rfl)) (fun h5 => ?_) (fun h5 => ?_)
      · refine sr_nil ?_
        refine aw_keep (keep_cons (t := 3) rfl (keep_cons (t := 8) rfl (keep_cons (t := 10) rfl (keep_cons (t := 11) rfl (keep_cons (t := 12) rfl (keep_cons (t := 14) rfl (keep_cons (t := 85) rfl (keep_cons (t := 86) rfl (keep_cons (t := 87) rfl (keep_cons (t := 88) rfl keep_nil)))))))))) ?_
        refine aw_true rfl ?_
        refine aw_skip ?_
        show AW _ _ _ _ _ _ _
        refine aw_seq ?_
        refine aw_block ?_
        refine aw_seq_region ?_
        obtain ⟨x, hx⟩ := get_ex (show k < (xs.take d.toNat).length by omega)
        obtain ⟨bx, ox, hax, hcx⟩ := (hid []).at_ _ _ hx
        refine sr_x rfl (wtd_none rfl) rfl (Rd.x (x_move rfl)) ?_
        refine sr_x rfl (wtd_none rfl) rfl (Rd.x (x_move rfl)) ?_
        refine sr_x rfl (wtd_none rfl) rfl (Rd.x (x_indexAddrN (k) Try.underlying58 sz66 rfl hax rfl (by omega) (by omega))) ?_
        refine sr_x rfl (wtd_none rfl) rfl (Rd.x (x_loadN ag66 sz66 rfl (Cells.mono hcx (Sub.nil _)) rfl)) ?_
        refine sr_d rfl (wtd_none rfl) rfl (opS_call rfl rfl rfl rfl cl47 (lright_s x _)) ?_
        rintro _ H9 ⟨rfl, rfl⟩
        rw [decide_eq_true (hok x (List.mem_of_getElem? hx))]
        refine sr_x rfl (wtd_none rfl) rfl (Rd.x (x_not rfl)) ?_
        refine sr_nil ?_
        refine aw_keep (keep_cons (t := 3) rfl (keep_cons (t := 8) rfl (keep_cons (t := 10) rfl (keep_cons (t := 11) rfl (keep_cons (t := 12) rfl (keep_cons (t := 14) rfl (keep_cons (t := 85) rfl (keep_cons (t := 86) rfl (keep_cons (t := 87) rfl (keep_cons (t := 88) rfl (keep_cons (t := 91) rfl (keep_cons (t := 92) rfl (keep_cons (t := 93) rfl (keep_cons (t := 94) rfl (keep_cons (t := 95) rfl (keep_cons (t := 96) rfl keep_nil)))))))))))))))) ?_
        refine aw_false rfl ?_
        refine aw_skip ?_
        show AW _ _ _ _ _ _ _
        refine aw_region ?_
        refine sr_x rfl (wtd_none rfl) rfl (Rd.x (x_move rfl)) ?_
        refine sr_x rfl (wtd_none rfl) rfl (Rd.x (x_add' rfl rfl (i64w (by omega) (by omega)))) ?_
        refine sr_x rfl (wtd_none rfl) rfl (Rd.x (x_assign rfl)) ?_
        refine sr_nil ?_
        show ∃ s', _ ∧ _ ∧ _ ∧ _
        exact ⟨k + 1, ⟨by omega, fun j y h hy => by (rcases Nat.lt_or_eq_of_le (Nat.le_of_lt_succ h) with q9 | q9); (exact hall j y q9 hy); (subst q9; rw [hx] at hy; cases hy; exact hok x (List.mem_of_getElem? hx))⟩, by omega, (by (repeat (first | exact keep_nil | refine keep_cons rfl ?_)); first | done | fail), Sub.autoP⟩
      · refine sr_nil ?_
        refine aw_keep (keep_cons (t := 3) rfl (keep_cons (t := 8) rfl (keep_cons (t := 10) rfl (keep_cons (t := 11) rfl (keep_cons (t := 12) rfl (keep_cons (t := 14) rfl (keep_cons (t := 85) rfl (keep_cons (t := 86) rfl (keep_cons (t := 87) rfl (keep_cons (t := 88) rfl keep_nil)))))))))) ?_
        refine aw_false rfl ?_
        refine aw_exit ?_
        show AW _ _ _ _ _ _ _
        refine aw_seq_region ?_
        refine sr_x rfl (wtd_none rfl) rfl (Rd.x (x_move rfl)) ?_
        refine sr_cmp rfl (wtd_none rfl) rfl (Rd.x (x_eq rfl rfl)) (fun h6 => ?_) (fun h6 => absurd (by first | omega | decide) h6)
        refine sr_x rfl (wtd_none rfl) rfl (Rd.x (x_move rfl)) ?_
        refine sr_x rfl (wtd_yes rfl rfl rfl) rfl (Rd.x (x_move rfl)) ?_
        refine sr_x rfl (wtd_yes rfl rfl rfl) rfl (Rd.x (x_move rfl)) ?_
        refine sr_x rfl (wtd_yes rfl rfl rfl) rfl (Rd.x (x_move rfl)) ?_
        refine sr_d rfl (wtd_yes rfl rfl rfl) rfl (opS_call rfl rfl rfl rfl cl49 (AC.sub Sub.autoP (planned_s q n now b d' L ver EL (E2 ++ (prB p (.slice a S.length cap) ver :: (E ++ []))) VL (atP n L) (hst.rfs (by decide)) ai ci (xs.take d.toNat) hid hok (by omega)))) ?_
        rintro _ _ ⟨cs2, f2, L2, ver2, b2, d2, EL2, ao, co, EO, rfl, hpl2, VO, hcl2, rfl⟩
        obtain ⟨rfl, -⟩ := hpl.uniq hpl2
        refine sr_d rfl (wtd_yes rfl rfl rfl) rfl (opS_call rfl rfl rfl rfl cl48 (same14_s a2 ao c2 co cs _ (V2.slv' (fun _ => rfl) rfl (Sub.takeE0 (by repeat (first | exact TakeE.here | apply TakeE.there | apply TakeE.app)))) (VO.slv' (fun _ => rfl) rfl (Sub.takeE0 (by repeat (first | exact TakeE.here | apply TakeE.there | apply TakeE.app)))))) ?_
        rintro _ H9 ⟨rfl, rfl⟩
        refine sr_x rfl (wtd_none rfl) rfl (Rd.x (x_pick_t rfl rfl rfl)) ?_
        refine sr_x rfl (wtd_none rfl) rfl (Rd.x (x_move rfl)) ?_
        refine sr_d rfl (wtd_yes rfl rfl rfl) rfl (opS_call rfl rfl rfl rfl cl44 (awake14_s _)) ?_
        rintro _ H9 ⟨rfl, rfl⟩
        refine sr_x rfl (wtd_none rfl) rfl (Rd.x (x_pick_t rfl rfl rfl)) ?_
        refine sr_x rfl (wtd_none rfl) rfl (Rd.x (x_assign rfl)) ?_
        refine sr_nil ?_
        refine aw_keep (keep_cons (t := 8) rfl keep_nil) ?_
        refine aw_ret ?_
        show ∃ v H2, ResV _ _ _ _ _ _ v ∧ Sub H2 _ ∧ _
        exact ⟨_, [], resV rfl (.cons rfl .nil), (Sub.nil _), rfl⟩
end
namespace PlanChoicesRow
open Go.ChangeShapes Go.WideShapes Go.ChangeAt Go.RowKit
theorem own : ownKnob Try.prog.godebug = none := by kernel_rfl
theorem laid : laidOutB Try.prog = true := by kernel_rfl
set_option maxRecDepth 100000 in
theorem lifted (os : Os) (started : os.Started) (H : Type) (enc : TypeId × Value → H) :
    ReturnsInHanded {} Try.checked os 7 .any (Rows.planChoicesSpec.pre6 enc Try.prog Try.f7 Rows.planChoicesRow.domain false) (Rows.planChoicesSpec.post enc Try.prog Try.f7 false true false false) := by
  refine law_lifted (C := Try.checked) (tb := 4) own started (by kernel_rfl) Try.func7 (ChangeSpec.witness6 (enc := enc) (C := Try.checked) false ⟨#[], #[.int .i64 0, .slice none 0 0, .int .i64 0, .slice none 0 0], []⟩ 8 (by kernel_rfl) (by kernel_rfl) (by kernel_rfl) (by kernel_rfl)) rfl Try.underlying4 rfl laid (by kernel_rfl) ?_ ?_
  · intro ds h
    match ds, h with
    | [a0, a1, a2, a3], _ => rfl
  · intro W base args ds ps hval hA hlt hsz
    have hA' : DataW.TrodAll enc Try.prog W 0 (fun _ => true) true [3, 34, 3, 58] args ds ps := hA
    clear hA
    obtain ⟨v0, vs0, d0, ds0, p0, q0, rfl, rfl, rfl, h0, r0⟩ := trodAll_cons hA'
    obtain ⟨v1, vs1, d1, ds1, p1, q1, rfl, rfl, rfl, h1, r1⟩ := trodAll_cons r0
    obtain ⟨v2, vs2, d2, ds2, p2, q2, rfl, rfl, rfl, h2, r2⟩ := trodAll_cons r1
    obtain ⟨v3, vs3, d3, ds3, p3, q3, rfl, rfl, rfl, h3, r3⟩ := trodAll_cons r2
    obtain ⟨rfl, rfl, rfl⟩ := trodAll_nil r3
    obtain ⟨n, rfl, _⟩ := opn_int Try.underlying3 (hval 0 3 v0 rfl rfl) h0
    obtain ⟨sa, scap, sps, rfl, hs, _⟩ := opn_slice (en := PSpan.cells) (Ok := fun j => j.Wf) Try.underlying34 cells55 (by decide) (fun fuel cs x h => read_PSpan h) (hval 1 34 v1 rfl rfl) h1
    obtain ⟨d, rfl, _⟩ := opn_int Try.underlying3 (hval 2 3 v2 rfl rfl) h2
    obtain ⟨ai, ci, l, rfl, hi, _⟩ := opn_slice (en := Item.cells) (Ok := fun j => j.Wf) Try.underlying58 cells66 (by decide) (fun fuel cs x h => read_Item h) (hval 3 58 v3 rfl rfl) h3
    by_cases hn : 0 ≤ n ∧ n ≤ 64
    · by_cases hd : 1 ≤ d ∧ d ≤ 64
      · by_cases hok : ∀ x ∈ (l.take 12).take d.toNat, RightI x
        · exact planChoices_ok n sa scap sps hs d ai ci l hi hn hd hok
        · exact planChoices_rng n sa scap sps hs d ai ci l hi hn hd (by simpa using hok)
      · exact planChoices_arg n sa scap sps hs d ai ci l hi hn hd
    · exact planChoices_bad n sa scap sps hs d ai ci l hi hn
theorem joined : joinedFacts Try.prog 7 Try.f7 Rows.planChoicesSpec Rows.planChoicesRow = true := by
  unfold joinedFacts
  rw [cutMay, cutLif, cutMk]
  kernel_rfl
theorem over : Rows.planChoicesRow.holds Try.pinned (OpenSpec.ofChange Rows.planChoicesSpec) :=
  OpenClaim.holds_of_wide 7 Try.f7 rfl rfl rfl rfl rfl rfl rfl ⟨rfl, rfl, rfl, rfl, rfl⟩ rfl rfl rfl rfl rfl (by kernel_rfl) Try.func7 joined
    (of_decide_eq_true (by kernel_rfl)) (by unfold Func.isWrapper; first | (rw [if_pos (by decide +kernel)]; kernel_rfl) | (rw [if_neg (by decide +kernel)]; exact ⟨rfl, rfl⟩))
    (fun os started H enc _ => lifted os started H enc)
theorem proved : Rows.PlanChoicesSaid := over
#print axioms proved
end PlanChoicesRow
end Go.Proofs.Ytjkojdjjooangaa
