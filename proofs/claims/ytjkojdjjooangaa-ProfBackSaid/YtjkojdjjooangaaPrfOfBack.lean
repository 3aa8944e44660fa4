/- What is reserved, and released, is as it was, and a nil profile has nothing; no condition. -/
import Derived.Test.YtjkojdjjooangaaPrfHelp
import Derived.Test.YtjkojdjjooangaaCut
import Derived.Test.YtjkojdjjooangaaRows
namespace Go.Proofs.Ytjkojdjjooangaa
open Go.Proofs.Ytjkojdjjooangaa.Sym
open Go.RowKit (Below)
set_option linter.unusedVariables false
set_option linter.unusedSimpArgs false
def Sym.PSpan.Wf (j : PSpan) : Prop := IntKind.min .i64 ≤ j.from_ ∧ j.from_ ≤ IntKind.max .i64 ∧ IntKind.min .i64 ≤ j.to_ ∧ j.to_ ≤ IntKind.max .i64 ∧ IntKind.min .i64 ≤ j.width ∧ j.width ≤ IntKind.max .i64
set_option maxRecDepth 100000 in
theorem read_PSpan {H : Type} {enc : TypeId × Value → H} {w : World} {base : Nat} {spare : Nat → Bool} {held : Bool} {fuel : Nat} {cs : List Value} {x : DataW H × List MemPlace} (h : DataW.trod enc Try.prog w base spare held fuel 55 cs = some x) : ∃ j : PSpan, cs = j.cells ∧ j.Wf := by
  obtain ⟨hlen, n, hf⟩ := read_struct Try.underlying55 h
  rw [cells55] at hlen
  obtain ⟨a0, e0, l0, u0⟩ := read_int Try.underlying2 cells2 (hf 0 _ rfl)
  obtain ⟨a1, e1, l1, u1⟩ := read_int Try.underlying2 cells2 (hf 1 _ rfl)
  obtain ⟨a2, e2, l2, u2⟩ := read_int Try.underlying3 cells3 (hf 2 _ rfl)
  refine ⟨⟨a0, a1, a2⟩, ?_, ⟨l0, u0, l1, u1, l2, u2⟩⟩
  apply List.ext_getElem?
  intro i
  match i with
  | 0 => exact e0
  | 1 => exact e1
  | 2 => exact e2
  | i + 3 => rw [List.getElem?_eq_none (by omega), List.getElem?_eq_none (by simp)]
set_option maxRecDepth 100000 in
theorem open_PSpan {H : Type} {enc : TypeId × Value → H} {w : World} {base b0 : Nat} {spare : Nat → Bool} {held : Bool} {v : Value} {d : DataW H} {p : List MemPlace} {r : Reach} (hv : Value.okWide Try.prog w r b0 55 v) (h : DataW.Trod enc Try.prog w base spare held 55 v d p) : ∃ j : PSpan, v = j.v ∧ j.Wf := by
  obtain ⟨cs, rfl, _⟩ := Go.WideShapes.okWide_struct Try.underlying55 hv
  obtain ⟨fuel, hf⟩ := h
  obtain ⟨j, h1, h2⟩ := read_PSpan hf
  refine ⟨j, ?_, h2⟩
  have : cs = j.cells.toArray := by apply Array.toList_inj.1; exact h1
  rw [this]
theorem ag55 : aggOf Try.prog 55 = some true := by kernel_rfl
theorem cl22 : Callable Try.prog 22 := ⟨Try.f22, Try.func22, by kernel_rfl, by kernel_rfl⟩
theorem cl23 : Callable Try.prog 23 := ⟨Try.f23, Try.func23, by kernel_rfl, by kernel_rfl⟩
theorem cl29 : Callable Try.prog 29 := ⟨Try.f29, Try.func29, by kernel_rfl, by kernel_rfl⟩
theorem cl30 : Callable Try.prog 30 := ⟨Try.f30, Try.func30, by kernel_rfl, by kernel_rfl⟩
theorem cl37 : Callable Try.prog 37 := ⟨Try.f37, Try.func37, by kernel_rfl, by kernel_rfl⟩
section
variable {W0 : World}
set_option maxRecDepth 100000 in
set_option maxHeartbeats 2000000 in
theorem profBack_bad (n : Int) (sa : Option Addr) (scap : Nat) (script : List POp) (hs0 : ∀ G, SlV W0 G 4 POp.cells sa scap script) (sp : PSpan) (hn : ¬ (0 ≤ n ∧ n ≤ 64)) : AC Try.prog W0 6 [.int .i64 n, .slice sa script.length scap, PSpan.v sp] [] (fun v _ => v = .bool true) := by
  refine ac_of Try.func6 rfl rfl rfl ?_
  refine aw_seq_region ?_
  refine sr_new rfl (wtd_none rfl) rfl (x_box rfl rfl) ?_
  intro r0_0 hr0_0 gr0_0
  refine sr_x rfl (wtd_none rfl) rfl (Rd.x (x_assign rfl)) ?_
  refine sr_nil ?_
  refine aw_keep (keep_cons (t := 0) rfl (keep_cons (t := 1) rfl (keep_cons (t := 5) rfl (keep_cons (t := 6) rfl keep_nil)))) ?_
  refine aw_seq_region ?_
  refine sr_x rfl (wtd_none rfl) rfl (Rd.x (x_assign rfl)) ?_
  refine sr_nil ?_
  refine aw_keep (keep_cons (t := 0) rfl (keep_cons (t := 1) rfl (keep_cons (t := 5) rfl (keep_cons (t := 6) rfl (keep_cons (t := 7) rfl keep_nil))))) ?_
  refine aw_seq_region ?_
  refine sr_x rfl (wtd_none rfl) rfl (Rd.x (x_move rfl)) ?_
  refine sr_d rfl (wtd_none rfl) rfl (opS_call rfl rfl rfl rfl cl24 (pearN_s 0 1 1 _)) ?_
  rintro _ H9 ⟨rfl, rfl⟩
  refine sr_x rfl (wtd_none rfl) rfl (Rd.x (x_move rfl)) ?_
  refine sr_x rfl (wtd_none rfl) rfl (Rd.x (x_extract rfl rfl)) ?_
  refine sr_x rfl (wtd_none rfl) rfl (Rd.x (x_extract rfl rfl)) ?_
  refine sr_x rfl (wtd_none rfl) rfl (Rd.x (x_assign rfl)) ?_
  refine sr_x rfl (wtd_none rfl) rfl (Rd.x (x_assign rfl)) ?_
  refine sr_nil ?_
  refine aw_keep (keep_cons (t := 0) rfl (keep_cons (t := 1) rfl (keep_cons (t := 5) rfl (keep_cons (t := 6) rfl (keep_cons (t := 7) rfl (keep_cons (t := 9) rfl keep_nil)))))) ?_
  refine aw_seq ?_
  refine aw_seq_region ?_
  refine sr_x rfl (wtd_none rfl) rfl (Rd.x (x_move rfl)) ?_
  refine sr_cmp rfl (wtd_none rfl) rfl (Rd.x (x_ne rfl rfl)) (fun h1 => absurd h1 (by first | omega | decide)) (fun h1 => ?_)
  refine sr_x rfl (wtd_none rfl) rfl (Rd.x (x_move rfl)) ?_
  refine sr_x rfl (wtd_yes rfl rfl rfl) rfl (Rd.x (x_move rfl)) ?_
  refine sr_d rfl (wtd_yes rfl rfl rfl) rfl (opS_call rfl rfl rfl rfl cl39 (padvN_s 1 _)) ?_
  rintro _ H9 ⟨rfl, rfl⟩
  refine sr_cmp rfl (wtd_yes rfl rfl rfl) rfl (Rd.x (x_ne rfl rfl)) (fun h2 => absurd h2 (by first | omega | decide)) (fun h2 => ?_)
  refine sr_x rfl (wtd_none rfl) rfl (Rd.x (x_pick_f rfl rfl rfl)) ?_
  refine sr_x rfl (wtd_none rfl) rfl (Rd.x (x_move rfl)) ?_
  refine sr_x rfl (wtd_yes rfl rfl rfl) rfl (Rd.x (x_move rfl)) ?_
  refine sr_d rfl (wtd_yes rfl rfl rfl) rfl (opS_call rfl rfl rfl rfl cl38 (paddN_s 0 1 1 _)) ?_
  rintro _ H9 ⟨rfl, rfl⟩
  refine sr_cmp rfl (wtd_yes rfl rfl rfl) rfl (Rd.x (x_ne rfl rfl)) (fun h3 => absurd h3 (by first | omega | decide)) (fun h3 => ?_)
  refine sr_x rfl (wtd_none rfl) rfl (Rd.x (x_pick_f rfl rfl rfl)) ?_
  refine sr_x rfl (wtd_none rfl) rfl (Rd.x (x_move rfl)) ?_
  refine sr_x rfl (wtd_yes rfl rfl rfl) rfl (Rd.x (x_move rfl)) ?_
  refine sr_d rfl (wtd_yes rfl rfl rfl) rfl (opS_call rfl rfl rfl rfl cl37 (pcopyN_s _)) ?_
  rintro _ H9 ⟨rfl, rfl⟩
  refine sr_x rfl (wtd_yes rfl rfl rfl) rfl (Rd.x (x_nenil Try.underlying23 rfl rfl)) ?_
  refine sr_x rfl (wtd_none rfl) rfl (Rd.x (x_pick_f rfl rfl rfl)) ?_
  refine sr_x rfl (wtd_none rfl) rfl (Rd.x (x_move rfl)) ?_
  refine sr_x rfl (wtd_yes rfl rfl rfl) rfl (Rd.x (x_move rfl)) ?_
  refine sr_d rfl (wtd_yes rfl rfl rfl) rfl (opS_call rfl rfl rfl rfl cl34 (pfreeN_s 0 _)) ?_
  rintro _ H9 ⟨rfl, rfl⟩
  refine sr_cmp rfl (wtd_yes rfl rfl rfl) rfl (Rd.x (x_ne rfl rfl)) (fun h4 => absurd h4 (by first | omega | decide)) (fun h4 => ?_)
  refine sr_x rfl (wtd_none rfl) rfl (Rd.x (x_pick_f rfl rfl rfl)) ?_
  refine sr_x rfl (wtd_none rfl) rfl (Rd.x (x_move rfl)) ?_
  refine sr_x rfl (wtd_yes rfl rfl rfl) rfl (Rd.x (x_move rfl)) ?_
  refine sr_d rfl (wtd_yes rfl rfl rfl) rfl (opS_call rfl rfl rfl rfl cl36 (pleastN_s 0 1 _)) ?_
  rintro _ H9 ⟨rfl, rfl⟩
  refine sr_cmp rfl (wtd_yes rfl rfl rfl) rfl (Rd.x (x_ne rfl rfl)) (fun h5 => absurd h5 (by first | omega | decide)) (fun h5 => ?_)
  refine sr_x rfl (wtd_none rfl) rfl (Rd.x (x_pick_f rfl rfl rfl)) ?_
  refine sr_x rfl (wtd_none rfl) rfl (Rd.x (x_move rfl)) ?_
  refine sr_x rfl (wtd_yes rfl rfl rfl) rfl (Rd.x (x_move rfl)) ?_
  refine sr_d rfl (wtd_yes rfl rfl rfl) rfl (opS_call rfl rfl rfl rfl cl31 (pstepsN_s _)) ?_
  rintro _ H9 ⟨rfl, rfl⟩
  refine sr_x rfl (wtd_yes rfl rfl rfl) rfl (Rd.x (x_lenSlice Try.underlying43 rfl)) ?_
  refine sr_cmp rfl (wtd_yes rfl rfl rfl) rfl (Rd.x (x_ne rfl rfl)) (fun h6 => absurd h6 (by first | omega | decide)) (fun h6 => ?_)
  refine sr_x rfl (wtd_none rfl) rfl (Rd.x (x_pick_f rfl rfl rfl)) ?_
  refine sr_x rfl (wtd_none rfl) rfl (Rd.x (x_move rfl)) ?_
  refine sr_x rfl (wtd_yes rfl rfl rfl) rfl (Rd.x (x_move rfl)) ?_
  refine sr_d rfl (wtd_yes rfl rfl rfl) rfl (opS_call rfl rfl rfl rfl cl29 (pverN_s _)) ?_
  rintro _ H9 ⟨rfl, rfl⟩
  refine sr_cmp rfl (wtd_yes rfl rfl rfl) rfl (Rd.x (x_ne rfl rfl)) (fun h7 => absurd h7 (by first | omega | decide)) (fun h7 => ?_)
  refine sr_x rfl (wtd_none rfl) rfl (Rd.x (x_pick_f rfl rfl rfl)) ?_
  refine sr_nil ?_
  refine aw_keep (keep_cons (t := 0) rfl (keep_cons (t := 1) rfl (keep_cons (t := 5) rfl (keep_cons (t := 6) rfl (keep_cons (t := 56) rfl keep_nil))))) ?_
  refine aw_false rfl ?_
  refine aw_skip ?_
  show AW _ _ _ _ _ _ _
  refine aw_seq_region ?_
  refine sr_x rfl (wtd_none rfl) rfl (Rd.x (x_move rfl)) ?_
  refine sr_x rfl (wtd_none rfl) rfl (Rd.x (x_move rfl)) ?_
  refine sr_d rfl (wtd_none rfl) rfl (opS_call rfl rfl rfl rfl cl22 (made05N_s n sa scap script hs0 _ hn)) ?_
  rintro _ H9 ⟨rfl, rfl⟩
  refine sr_x rfl (wtd_none rfl) rfl (Rd.x (x_move rfl)) ?_
  refine sr_x rfl (wtd_none rfl) rfl (Rd.x (x_extract rfl rfl)) ?_
  refine sr_x rfl (wtd_none rfl) rfl (Rd.x (x_extract rfl rfl)) ?_
  refine sr_x rfl (wtd_none rfl) rfl (Rd.x (x_assign rfl)) ?_
  refine sr_x rfl (wtd_none rfl) rfl (Rd.x (x_assign rfl)) ?_
  refine sr_nil ?_
  refine aw_keep (keep_cons (t := 5) rfl (keep_cons (t := 6) rfl (keep_cons (t := 10) rfl (keep_cons (t := 11) rfl keep_nil)))) ?_
  refine aw_seq ?_
  refine aw_seq_region ?_
  refine sr_x rfl (wtd_none rfl) rfl (Rd.x (x_move rfl)) ?_
  refine sr_x rfl (wtd_none rfl) rfl (Rd.x (x_eqnil Try.underlying23 rfl rfl)) ?_
  refine sr_x rfl (wtd_none rfl) rfl (Rd.x (x_move rfl)) ?_
  refine sr_skip rfl (wtd_no rfl rfl rfl rfl) rfl ?_
  refine sr_skip rfl (wtd_no rfl rfl rfl rfl) rfl ?_
  refine sr_x rfl (wtd_none rfl) rfl (Rd.x (x_pick_t rfl rfl rfl)) ?_
  refine sr_x rfl (wtd_none rfl) rfl (Rd.x (x_move rfl)) ?_
  refine sr_skip rfl (wtd_no rfl rfl rfl rfl) rfl ?_
  refine sr_skip rfl (wtd_no rfl rfl rfl rfl) rfl ?_
  refine sr_skip rfl (wtd_no rfl rfl rfl rfl) rfl ?_
  refine sr_x rfl (wtd_none rfl) rfl (Rd.x (x_pick_t rfl rfl rfl)) ?_
  refine sr_x rfl (wtd_none rfl) rfl (Rd.x (x_move rfl)) ?_
  refine sr_skip rfl (wtd_no rfl rfl rfl rfl) rfl ?_
  refine sr_skip rfl (wtd_no rfl rfl rfl rfl) rfl ?_
  refine sr_skip rfl (wtd_no rfl rfl rfl rfl) rfl ?_
  refine sr_x rfl (wtd_none rfl) rfl (Rd.x (x_pick_t rfl rfl rfl)) ?_
  refine sr_nil ?_
  refine aw_keep (keep_cons (t := 5) rfl (keep_cons (t := 6) rfl (keep_cons (t := 10) rfl (keep_cons (t := 11) rfl (keep_cons (t := 78) rfl keep_nil))))) ?_
  refine aw_true rfl ?_
  refine aw_seq_region ?_
  refine sr_d rfl (wtd_none rfl) rfl (opS_call rfl rfl rfl rfl cl23 (awake05_s _)) ?_
  rintro _ H9 ⟨rfl, rfl⟩
  refine sr_x rfl (wtd_none rfl) rfl (Rd.x (x_assign rfl)) ?_
  refine sr_nil ?_
  refine aw_keep (keep_cons (t := 5) rfl (keep_cons (t := 6) rfl (keep_cons (t := 10) rfl (keep_cons (t := 11) rfl keep_nil)))) ?_
  refine aw_ret ?_
  show ∃ v H2, ResV _ _ _ _ _ _ v ∧ Sub H2 _ ∧ _
  exact ⟨_, [], resV rfl (.cons rfl .nil), (Sub.nil _), rfl⟩
set_option maxRecDepth 100000 in
set_option maxHeartbeats 8000000 in
theorem profBack_ok (n : Int) (sa : Option Addr) (scap : Nat) (script : List POp) (hs0 : ∀ G, SlV W0 G 4 POp.cells sa scap script) (sp : PSpan) (hn : 0 ≤ n ∧ n ≤ 64) : AC Try.prog W0 6 [.int .i64 n, .slice sa script.length scap, PSpan.v sp] [] (fun v _ => v = .bool true) := by
  refine ac_of Try.func6 rfl rfl rfl ?_
  refine aw_seq_region ?_
  refine sr_new rfl (wtd_none rfl) rfl (x_box rfl rfl) ?_
  intro r0_0 hr0_0 gr0_0
  refine sr_x rfl (wtd_none rfl) rfl (Rd.x (x_assign rfl)) ?_
  refine sr_nil ?_
  refine aw_keep (keep_cons (t := 0) rfl (keep_cons (t := 1) rfl (keep_cons (t := 5) rfl (keep_cons (t := 6) rfl keep_nil)))) ?_
  refine aw_seq_region ?_
  refine sr_x rfl (wtd_none rfl) rfl (Rd.x (x_assign rfl)) ?_
  refine sr_nil ?_
  refine aw_keep (keep_cons (t := 0) rfl (keep_cons (t := 1) rfl (keep_cons (t := 5) rfl (keep_cons (t := 6) rfl (keep_cons (t := 7) rfl keep_nil))))) ?_
  refine aw_seq_region ?_
  refine sr_x rfl (wtd_none rfl) rfl (Rd.x (x_move rfl)) ?_
  refine sr_d rfl (wtd_none rfl) rfl (opS_call rfl rfl rfl rfl cl24 (pearN_s 0 1 1 _)) ?_
  rintro _ H9 ⟨rfl, rfl⟩
  refine sr_x rfl (wtd_none rfl) rfl (Rd.x (x_move rfl)) ?_
  refine sr_x rfl (wtd_none rfl) rfl (Rd.x (x_extract rfl rfl)) ?_
  refine sr_x rfl (wtd_none rfl) rfl (Rd.x (x_extract rfl rfl)) ?_
  refine sr_x rfl (wtd_none rfl) rfl (Rd.x (x_assign rfl)) ?_
  refine sr_x rfl (wtd_none rfl) rfl (Rd.x (x_assign rfl)) ?_
  refine sr_nil ?_
  refine aw_keep (keep_cons (t := 0) rfl (keep_cons (t := 1) rfl (keep_cons (t := 5) rfl (keep_cons (t := 6) rfl (keep_cons (t := 7) rfl (keep_cons (t := 9) rfl keep_nil)))))) ?_
  refine aw_seq ?_
  refine aw_seq_region ?_
  refine sr_x rfl (wtd_none rfl) rfl (Rd.x (x_move rfl)) ?_
  refine sr_cmp rfl (wtd_none rfl) rfl (Rd.x (x_ne rfl rfl)) (fun h1 => absurd h1 (by first | omega | decide)) (fun h1 => ?_)
  refine sr_x rfl (wtd_none rfl) rfl (Rd.x (x_move rfl)) ?_
  refine sr_x rfl (wtd_yes rfl rfl rfl) rfl (Rd.x (x_move rfl)) ?_
  refine sr_d rfl (wtd_yes rfl rfl rfl) rfl (opS_call rfl rfl rfl rfl cl39 (padvN_s 1 _)) ?_
  rintro _ H9 ⟨rfl, rfl⟩
  refine sr_cmp rfl (wtd_yes rfl rfl rfl) rfl (Rd.x (x_ne rfl rfl)) (fun h2 => absurd h2 (by first | omega | decide)) (fun h2 => ?_)
  refine sr_x rfl (wtd_none rfl) rfl (Rd.x (x_pick_f rfl rfl rfl)) ?_
  refine sr_x rfl (wtd_none rfl) rfl (Rd.x (x_move rfl)) ?_
  refine sr_x rfl (wtd_yes rfl rfl rfl) rfl (Rd.x (x_move rfl)) ?_
  refine sr_d rfl (wtd_yes rfl rfl rfl) rfl (opS_call rfl rfl rfl rfl cl38 (paddN_s 0 1 1 _)) ?_
  rintro _ H9 ⟨rfl, rfl⟩
  refine sr_cmp rfl (wtd_yes rfl rfl rfl) rfl (Rd.x (x_ne rfl rfl)) (fun h3 => absurd h3 (by first | omega | decide)) (fun h3 => ?_)
  refine sr_x rfl (wtd_none rfl) rfl (Rd.x (x_pick_f rfl rfl rfl)) ?_
  refine sr_x rfl (wtd_none rfl) rfl (Rd.x (x_move rfl)) ?_
  refine sr_x rfl (wtd_yes rfl rfl rfl) rfl (Rd.x (x_move rfl)) ?_
  refine sr_d rfl (wtd_yes rfl rfl rfl) rfl (opS_call rfl rfl rfl rfl cl37 (pcopyN_s _)) ?_
  rintro _ H9 ⟨rfl, rfl⟩
  refine sr_x rfl (wtd_yes rfl rfl rfl) rfl (Rd.x (x_nenil Try.underlying23 rfl rfl)) ?_
  refine sr_x rfl (wtd_none rfl) rfl (Rd.x (x_pick_f rfl rfl rfl)) ?_
  refine sr_x rfl (wtd_none rfl) rfl (Rd.x (x_move rfl)) ?_
  refine sr_x rfl (wtd_yes rfl rfl rfl) rfl (Rd.x (x_move rfl)) ?_
  refine sr_d rfl (wtd_yes rfl rfl rfl) rfl (opS_call rfl rfl rfl rfl cl34 (pfreeN_s 0 _)) ?_
  rintro _ H9 ⟨rfl, rfl⟩
  refine sr_cmp rfl (wtd_yes rfl rfl rfl) rfl (Rd.x (x_ne rfl rfl)) (fun h4 => absurd h4 (by first | omega | decide)) (fun h4 => ?_)
  refine sr_x rfl (wtd_none rfl) rfl (Rd.x (x_pick_f rfl rfl rfl)) ?_
  refine sr_x rfl (wtd_none rfl) rfl (Rd.x (x_move rfl)) ?_
  refine sr_x rfl (wtd_yes rfl rfl rfl) rfl (Rd.x (x_move rfl)) ?_
  refine sr_d rfl (wtd_yes rfl rfl rfl) rfl (opS_call rfl rfl rfl rfl cl36 (pleastN_s 0 1 _)) ?_
  rintro _ H9 ⟨rfl, rfl⟩
  refine sr_cmp rfl (wtd_yes rfl rfl rfl) rfl (Rd.x (x_ne rfl rfl)) (fun h5 => absurd h5 (by first | omega | decide)) (fun h5 => ?_)
  refine sr_x rfl (wtd_none rfl) rfl (Rd.x (x_pick_f rfl rfl rfl)) ?_
  refine sr_x rfl (wtd_none rfl) rfl (Rd.x (x_move rfl)) ?_
  refine sr_x rfl (wtd_yes rfl rfl rfl) rfl (Rd.x (x_move rfl)) ?_
  refine sr_d rfl (wtd_yes rfl rfl rfl) rfl (opS_call rfl rfl rfl rfl cl31 (pstepsN_s _)) ?_
  rintro _ H9 ⟨rfl, rfl⟩
  refine sr_x rfl (wtd_yes rfl rfl rfl) rfl (Rd.x (x_lenSlice Try.underlying43 rfl)) ?_
  refine sr_cmp rfl (wtd_yes rfl rfl rfl) rfl (Rd.x (x_ne rfl rfl)) (fun h6 => absurd h6 (by first | omega | decide)) (fun h6 => ?_)
  refine sr_x rfl (wtd_none rfl) rfl (Rd.x (x_pick_f rfl rfl rfl)) ?_
  refine sr_x rfl (wtd_none rfl) rfl (Rd.x (x_move rfl)) ?_
  refine sr_x rfl (wtd_yes rfl rfl rfl) rfl (Rd.x (x_move rfl)) ?_
  refine sr_d rfl (wtd_yes rfl rfl rfl) rfl (opS_call rfl rfl rfl rfl cl29 (pverN_s _)) ?_
  rintro _ H9 ⟨rfl, rfl⟩
  refine sr_cmp rfl (wtd_yes rfl rfl rfl) rfl (Rd.x (x_ne rfl rfl)) (fun h7 => absurd h7 (by first | omega | decide)) (fun h7 => ?_)
  refine sr_x rfl (wtd_none rfl) rfl (Rd.x (x_pick_f rfl rfl rfl)) ?_
  refine sr_nil ?_
  refine aw_keep (keep_cons (t := 0) rfl (keep_cons (t := 1) rfl (keep_cons (t := 5) rfl (keep_cons (t := 6) rfl (keep_cons (t := 56) rfl keep_nil))))) ?_
  refine aw_false rfl ?_
  refine aw_skip ?_
  show AW _ _ _ _ _ _ _
  refine aw_seq_region ?_
  refine sr_x rfl (wtd_none rfl) rfl (Rd.x (x_move rfl)) ?_
  refine sr_x rfl (wtd_none rfl) rfl (Rd.x (x_move rfl)) ?_
  refine sr_d rfl (wtd_none rfl) rfl (opS_call rfl rfl rfl rfl cl22 (made05_s n sa scap script hs0 _ hn)) ?_
  rintro _ _ ⟨p, q, S, now, L, ver, a, cap, E, b, d, EL, rfl, hst, V, VL, rfl⟩
  have hsS := V.slv' (W0 := W0) (fun _ => rfl) rfl (Sub.refl _)
  have hsL := VL.slv' (W0 := W0) (fun _ => rfl) rfl (Sub.refl _)
  have hrep := hst.rep
  have hvr := hst.vr
  have hln := hst.ln
  have hsl := hst.sl
  have hps := rep_pos hrep
  have hnw := hst.nw
  refine sr_x rfl (wtd_none rfl) rfl (Rd.x (x_move rfl)) ?_
  refine sr_x rfl (wtd_none rfl) rfl (Rd.x (x_extract rfl rfl)) ?_
  refine sr_x rfl (wtd_none rfl) rfl (Rd.x (x_extract rfl rfl)) ?_
  refine sr_x rfl (wtd_none rfl) rfl (Rd.x (x_assign rfl)) ?_
  refine sr_x rfl (wtd_none rfl) rfl (Rd.x (x_assign rfl)) ?_
  refine sr_nil ?_
  refine aw_keep (keep_cons (t := 5) rfl (keep_cons (t := 6) rfl (keep_cons (t := 10) rfl (keep_cons (t := 11) rfl keep_nil)))) ?_
  refine aw_seq ?_
  refine aw_seq_region ?_
  refine sr_x rfl (wtd_none rfl) rfl (Rd.x (x_move rfl)) ?_
  refine sr_x rfl (wtd_none rfl) rfl (Rd.x (x_eqnil Try.underlying23 rfl rfl)) ?_
  refine sr_x rfl (wtd_none rfl) rfl (Rd.x (x_move rfl)) ?_
  refine sr_x rfl (wtd_yes rfl rfl rfl) rfl (Rd.x (x_move rfl)) ?_
  refine sr_x rfl (wtd_yes rfl rfl rfl) rfl (Rd.x (x_eqnil Try.underlying24 rfl rfl)) ?_
  refine sr_x rfl (wtd_none rfl) rfl (Rd.x (x_pick_f rfl rfl rfl)) ?_
  refine sr_x rfl (wtd_none rfl) rfl (Rd.x (x_move rfl)) ?_
  refine sr_x rfl (wtd_yes rfl rfl rfl) rfl (Rd.x (x_fieldAddr fd55_2 rfl)) ?_
  refine sr_x rfl (wtd_yes rfl rfl rfl) rfl (Rd.x (x_load ag3 rfl (cells_ext (by repeat (first | exact List.mem_cons_self | apply List.mem_cons_of_mem | apply List.mem_append_right)) (by repeat (first | exact Ext.all _ | exact Ext.done | apply Ext.take | apply Ext.skip))))) ?_
  refine sr_cmp rfl (wtd_yes rfl rfl rfl) rfl (Rd.x (x_lt rfl rfl)) (fun h8 => ?_) (fun h8 => ?_)
  · refine sr_x rfl (wtd_none rfl) rfl (Rd.x (x_pick_f rfl rfl rfl)) ?_
    refine sr_x rfl (wtd_none rfl) rfl (Rd.x (x_move rfl)) ?_
    refine sr_skip rfl (wtd_no rfl rfl rfl rfl) rfl ?_
    refine sr_skip rfl (wtd_no rfl rfl rfl rfl) rfl ?_
    refine sr_skip rfl (wtd_no rfl rfl rfl rfl) rfl ?_
    refine sr_x rfl (wtd_none rfl) rfl (Rd.x (x_pick_t rfl rfl rfl)) ?_
    refine sr_nil ?_
    refine aw_keep (keep_cons (t := 5) rfl (keep_cons (t := 6) rfl (keep_cons (t := 10) rfl (keep_cons (t := 11) rfl (keep_cons (t := 78) rfl keep_nil))))) ?_
    refine aw_true rfl ?_
    refine aw_seq_region ?_
    refine sr_d rfl (wtd_none rfl) rfl (opS_call rfl rfl rfl rfl cl23 (awake05_s _)) ?_
    rintro _ H9 ⟨rfl, rfl⟩
    refine sr_x rfl (wtd_none rfl) rfl (Rd.x (x_assign rfl)) ?_
    refine sr_nil ?_
    refine aw_keep (keep_cons (t := 5) rfl (keep_cons (t := 6) rfl (keep_cons (t := 10) rfl (keep_cons (t := 11) rfl keep_nil)))) ?_
    refine aw_ret ?_
    show ∃ v H2, ResV _ _ _ _ _ _ v ∧ Sub H2 _ ∧ _
    exact ⟨_, [], resV rfl (.cons rfl .nil), (Sub.nil _), rfl⟩
  · refine sr_x rfl (wtd_none rfl) rfl (Rd.x (x_pick_f rfl rfl rfl)) ?_
    refine sr_x rfl (wtd_none rfl) rfl (Rd.x (x_move rfl)) ?_
    refine sr_x rfl (wtd_yes rfl rfl rfl) rfl (Rd.x (x_fieldAddr fd55_2 rfl)) ?_
    refine sr_x rfl (wtd_yes rfl rfl rfl) rfl (Rd.x (x_load ag3 rfl (cells_ext (by repeat (first | exact List.mem_cons_self | apply List.mem_cons_of_mem | apply List.mem_append_right)) (by repeat (first | exact Ext.all _ | exact Ext.done | apply Ext.take | apply Ext.skip))))) ?_
    refine sr_cmp rfl (wtd_yes rfl rfl rfl) rfl (Rd.x (x_gt rfl rfl)) (fun h9 => ?_) (fun h9 => ?_)
    · refine sr_x rfl (wtd_none rfl) rfl (Rd.x (x_pick_f rfl rfl rfl)) ?_
      refine sr_nil ?_
      refine aw_keep (keep_cons (t := 5) rfl (keep_cons (t := 6) rfl (keep_cons (t := 10) rfl (keep_cons (t := 11) rfl (keep_cons (t := 78) rfl keep_nil))))) ?_
      refine aw_true rfl ?_
      refine aw_seq_region ?_
      refine sr_d rfl (wtd_none rfl) rfl (opS_call rfl rfl rfl rfl cl23 (awake05_s _)) ?_
      rintro _ H9 ⟨rfl, rfl⟩
      refine sr_x rfl (wtd_none rfl) rfl (Rd.x (x_assign rfl)) ?_
      refine sr_nil ?_
      refine aw_keep (keep_cons (t := 5) rfl (keep_cons (t := 6) rfl (keep_cons (t := 10) rfl (keep_cons (t := 11) rfl keep_nil)))) ?_
      refine aw_ret ?_
      show ∃ v H2, ResV _ _ _ _ _ _ v ∧ Sub H2 _ ∧ _
      exact ⟨_, [], resV rfl (.cons rfl .nil), (Sub.nil _), rfl⟩
    · refine sr_x rfl (wtd_none rfl) rfl (Rd.x (x_pick_f rfl rfl rfl)) ?_
      refine sr_nil ?_
      refine aw_keep (keep_cons (t := 5) rfl (keep_cons (t := 6) rfl (keep_cons (t := 10) rfl (keep_cons (t := 11) rfl (keep_cons (t := 78) rfl keep_nil))))) ?_
      refine aw_false rfl ?_
      refine aw_skip ?_
      show AW _ _ _ _ _ _ _
      refine aw_seq_region ?_
      refine sr_x rfl (wtd_none rfl) rfl (Rd.x (x_move rfl)) ?_
      refine sr_d rfl (wtd_none rfl) rfl (opS_call rfl rfl rfl rfl cl31 (psteps_s p a cap S ver _ (cells_ext (by repeat (first | exact List.mem_cons_self | apply List.mem_cons_of_mem | apply List.mem_append_right)) (by repeat (first | exact Ext.all _ | exact Ext.done | apply Ext.take | apply Ext.skip))) (hsS.mono (Sub.takeE0 (by repeat (first | exact TakeE.here | apply TakeE.there | apply TakeE.app)))) hps (by omega))) ?_
      rintro _ _ ⟨EW, ⟨aw, cw, VW, rfl⟩, rfl⟩
      refine sr_x rfl (wtd_none rfl) rfl (Rd.x (x_assign rfl)) ?_
      refine sr_nil ?_
      refine aw_keep (keep_cons (t := 5) rfl (keep_cons (t := 6) rfl (keep_cons (t := 10) rfl (keep_cons (t := 11) rfl (keep_cons (t := 12) rfl keep_nil))))) ?_
      refine aw_seq_region ?_
      refine sr_x rfl (wtd_none rfl) rfl (Rd.x (x_move rfl)) ?_
      refine sr_x rfl (wtd_none rfl) rfl (Rd.x (x_loadN ag55 sz55 rfl (cells_ext (by repeat (first | exact List.mem_cons_self | apply List.mem_cons_of_mem | apply List.mem_append_right)) (by repeat (first | exact Ext.all _ | exact Ext.done | apply Ext.take | apply Ext.skip))) rfl)) ?_
      refine sr_d rfl (wtd_none rfl) rfl (opS_call rfl rfl rfl rfl cl40 (AC.sub (by repeat (first | exact Sub.refl _ | refine Sub.take (by repeat (first | exact Take.here | apply Take.there | apply Take.app)) ?_ | refine Sub.takeE (by repeat (first | exact TakeE.here | apply TakeE.there | apply TakeE.app)) ?_ | exact Sub.nil _ | apply Sub.drop | apply Sub.dropE)) (pres_s p a cap S.length S ver E (EW ++ (plB q n now (.slice b L.length d) ver :: (EL ++ ((r0_0, .cells (PSpan.cells sp).toArray 55 (0, 0)) :: [])))) V rfl (by omega) now (atP n L) hrep hst.rng (by omega) (by omega) sp (by omega)))) ?_
      rintro _ _ ⟨e, ch, S1, a1, c1, E1, rfl, hC1, hR1, hl1, V1, rfl⟩
      have hsS1 := V1.slv' (W0 := W0) (fun _ => rfl) rfl (Sub.refl _)
      have hps1 := rep_pos hR1
      refine sr_x rfl (wtd_none rfl) rfl (Rd.x (x_assign rfl)) ?_
      refine sr_nil ?_
      refine aw_keep (keep_cons (t := 5) rfl (keep_cons (t := 6) rfl (keep_cons (t := 10) rfl (keep_cons (t := 11) rfl (keep_cons (t := 12) rfl (keep_cons (t := 13) rfl keep_nil)))))) ?_
      refine aw_seq ?_
      refine aw_seq_region ?_
      refine sr_x rfl (wtd_none rfl) rfl (Rd.x (x_move rfl)) ?_
      refine sr_cmp rfl (wtd_none rfl) rfl (Rd.x (x_ne rfl rfl)) (fun h10 => ?_) (fun h10 => ?_)
      · refine sr_nil ?_
        refine aw_keep (keep_cons (t := 5) rfl (keep_cons (t := 6) rfl (keep_cons (t := 10) rfl (keep_cons (t := 11) rfl (keep_cons (t := 12) rfl (keep_cons (t := 86) rfl keep_nil)))))) ?_
        refine aw_true rfl ?_
        refine aw_seq_dr ⟨_, 17, 116, [[], [0], [], [0, 1, 2], [0, 1, 2, 3], [0, 1, 2, 3, 4], [0, 1, 2, 3, 4, 5], [0, 1, 2, 3, 4], [0, 1, 2, 3, 4, 7], [0, 1, 2, 3, 4, 7, 8], [0, 1, 2, 3, 4, 7, 8, 9], [0, 1, 2, 3, 4, 5, 6, 7, 8, 9, 10], [0, 1, 2, 3, 4, 5, 6, 7, 8, 9, 10, 11], [0, 1, 2, 3, 4, 5, 6, 7, 8, 9, 10, 11, 12], [0, 1, 2, 3, 4, 5, 6, 7, 8, 9, 10, 11, 12, 13], [0, 1, 2, 3, 4, 5, 6, 7, 8, 9, 10, 11, 12, 13, 14], [0, 1, 2, 3, 4, 5, 6, 7, 8, 9, 10, 11, 12, 13, 14, 15]], [.light, .call, .light, .call, .light, .light, .call, .light, .light, .light, .mem, .light, .light, .light, .call, .light, .light]⟩ (by kernel_rfl) rfl rfl mix ?_
        obtain rfl : ch = false := addC_bad hC1 (by assumption)
        obtain rfl : S = S1 := rep_uniq hrep (show Rep S1 now (atP n L) from hR1)
        refine dr_light rfl rfl (wtd_none rfl) (x_move rfl) ?_
        refine dr_call rfl (V := []) rfl rfl (wtd_none rfl) (opS_F rfl rfl rfl rfl cl31 (psteps_s p a1 c1 S _ _ (cells_ext (by repeat (first | exact List.mem_cons_self | apply List.mem_cons_of_mem | apply List.mem_append_right)) (by repeat (first | exact Ext.all _ | exact Ext.done | apply Ext.take | apply Ext.skip))) (hsS1.mono (Sub.takeE0 (by repeat (first | exact TakeE.here | apply TakeE.there | apply TakeE.app)))) hps (by omega))) (ownvec_freshE (by rw [flat_len (n := 2) (fun _ => rfl)]) (by omega)) ?_
        rintro _ EC ⟨aC, cC, VC, rfl⟩
        refine dr_light rfl rfl (wtd_none rfl) (x_move rfl) ?_
        refine dr_callq rfl (V := (EC ++ [])) rfl rfl rfl (wtd_none rfl) (opS_F rfl rfl rfl rfl cl30 ((same05_s aC aw cC cw S _ (VC.slv' (fun _ => rfl) rfl (by first | exact sub_n1 | exact sub_n2 | exact sub_news | exact (Sub.takeE0 (by repeat (first | exact TakeE.here | apply TakeE.there | apply TakeE.app))))) (VW.slv' (fun _ => rfl) rfl (by first | exact sub_n1 | exact sub_n2 | exact sub_news | exact (Sub.takeE0 (by repeat (first | exact TakeE.here | apply TakeE.there | apply TakeE.app)))))))) (⟨_, rfl⟩) ?_
        rintro _ rfl
        refine dr_light rfl rfl (wtd_none rfl) (x_move rfl) ?_
        refine dr_light rfl rfl (wtd_yes rfl rfl rfl) (x_move rfl) ?_
        refine dr_callq rfl (V := (EC ++ [])) rfl rfl rfl (wtd_yes rfl rfl rfl) (opS_F rfl rfl rfl rfl cl29 ((pver_s p a1 c1 S _ _ (cells_ext (by repeat (first | exact List.mem_cons_self | apply List.mem_cons_of_mem | apply List.mem_append_right)) (by repeat (first | exact Ext.all _ | exact Ext.done | apply Ext.take | apply Ext.skip))) (hsS1.mono (Sub.takeE0 (by repeat (first | exact TakeE.here | apply TakeE.there | apply TakeE.app)))) hps))) (⟨_, rfl⟩) ?_
        rintro _ rfl
        refine dr_light rfl rfl (wtd_yes rfl rfl rfl) (x_move rfl) ?_
        refine dr_light rfl rfl (wtd_yes rfl rfl rfl) (x_nilCheck rfl) ?_
        refine dr_light rfl rfl (wtd_yes rfl rfl rfl) (x_fieldAddr fd36_3 rfl) ?_
        refine dr_mem rfl (V := (EC ++ [])) rfl rfl (wtd_yes rfl rfl rfl) (x_load ag3 rfl (cells_ext (by repeat (first | exact List.mem_cons_self | apply List.mem_cons_of_mem | apply List.mem_append_right)) (by repeat (first | exact Ext.all _ | exact Ext.done | apply Ext.take | apply Ext.skip)))) ?_
        refine dr_cmp rfl rfl (wtd_yes rfl rfl rfl) (x_eq rfl rfl) (fun h11 => ?_) (fun h11 => absurd (by rfl) h11)
        refine dr_light rfl rfl (wtd_none rfl) (x_pick_t rfl rfl rfl) ?_
        refine dr_light rfl rfl (wtd_none rfl) (x_move rfl) ?_
        refine dr_callq rfl (V := (EC ++ [])) rfl rfl rfl (wtd_yes rfl rfl rfl) (opS_F rfl rfl rfl rfl cl23 ((awake05_s _))) (⟨_, rfl⟩) ?_
        rintro _ rfl
        refine dr_light rfl rfl (wtd_none rfl) (x_pick_t rfl rfl rfl) ?_
        refine dr_light rfl rfl (wtd_none rfl) (x_assign rfl) ?_
        refine dr_drop ?_
        refine aw_keep (keep_cons (t := 5) rfl (keep_cons (t := 6) rfl (keep_cons (t := 10) rfl (keep_cons (t := 12) rfl keep_nil)))) ?_
        refine aw_ret ?_
        show ∃ v H2, ResV _ _ _ _ _ _ v ∧ Sub H2 _ ∧ _
        exact ⟨_, [], resV rfl (.cons rfl .nil), (Sub.nil _), rfl⟩
      · refine sr_nil ?_
        refine aw_keep (keep_cons (t := 5) rfl (keep_cons (t := 6) rfl (keep_cons (t := 10) rfl (keep_cons (t := 11) rfl (keep_cons (t := 12) rfl (keep_cons (t := 86) rfl keep_nil)))))) ?_
        refine aw_false rfl ?_
        refine aw_skip ?_
        show AW _ _ _ _ _ _ _
        refine aw_seq_region ?_
        refine sr_x rfl (wtd_none rfl) rfl (Rd.x (x_move rfl)) ?_
        refine sr_x rfl (wtd_none rfl) rfl (Rd.x (x_loadN ag55 sz55 rfl (cells_ext (by repeat (first | exact List.mem_cons_self | apply List.mem_cons_of_mem | apply List.mem_append_right)) (by repeat (first | exact Ext.all _ | exact Ext.done | apply Ext.take | apply Ext.skip))) rfl)) ?_
        refine sr_d rfl (wtd_none rfl) rfl (opS_call rfl rfl rfl rfl cl41 (AC.sub (by repeat (first | exact Sub.refl _ | refine Sub.take (by repeat (first | exact Take.here | apply Take.there | apply Take.app)) ?_ | refine Sub.takeE (by repeat (first | exact TakeE.here | apply TakeE.there | apply TakeE.app)) ?_ | exact Sub.nil _ | apply Sub.drop | apply Sub.dropE)) (prel_s p a1 c1 S1.length S1 (if ch = true then ver + 1 else ver) E1 (EW ++ (plB q n now (.slice b L.length d) ver :: (EL ++ ((r0_0, .cells (PSpan.cells sp).toArray 55 (0, 0)) :: [])))) V1 rfl (by omega) now (if ch = true then addF (atP n L) now sp.from_ sp.to_ (0 - sp.width) else atP n L) hR1 (addC_rng hrep hnw hst.rng hC1) (by split <;> omega) (by omega) sp (by omega)))) ?_
        rintro _ _ ⟨e2, ch2, S2, a2, c2, E2, rfl, hC2, hR2, hl2, V2, rfl⟩
        obtain ⟨rfl, hSS⟩ := back_ok hrep hst.rng hC1 (by omega) hC2 hR2
        subst hSS
        have hsS2 := V2.slv' (W0 := W0) (fun _ => rfl) rfl (Sub.refl _)
        refine sr_cmp rfl (wtd_none rfl) rfl (Rd.x (x_eq rfl rfl)) (fun h12 => ?_) (fun h12 => absurd (by first | omega | decide) h12)
        refine sr_x rfl (wtd_none rfl) rfl (Rd.x (x_move rfl)) ?_
        refine sr_x rfl (wtd_yes rfl rfl rfl) rfl (Rd.x (x_move rfl)) ?_
        refine sr_d rfl (wtd_yes rfl rfl rfl) rfl (opS_call rfl rfl rfl rfl cl31 (psteps_s p a2 c2 S _ _ (cells_ext (by repeat (first | exact List.mem_cons_self | apply List.mem_cons_of_mem | apply List.mem_append_right)) (by repeat (first | exact Ext.all _ | exact Ext.done | apply Ext.take | apply Ext.skip))) (hsS2.mono (Sub.takeE0 (by repeat (first | exact TakeE.here | apply TakeE.there | apply TakeE.app)))) hps (by omega))) ?_
        rintro _ _ ⟨EC, ⟨aC, cC, VC, rfl⟩, rfl⟩
        refine sr_x rfl (wtd_yes rfl rfl rfl) rfl (Rd.x (x_move rfl)) ?_
        refine sr_d rfl (wtd_yes rfl rfl rfl) rfl (opS_call rfl rfl rfl rfl cl30 (same05_s aC aw cC cw S _ (VC.slv' (fun _ => rfl) rfl (by first | exact sub_n1 | exact sub_n2 | exact sub_news | exact (Sub.takeE0 (by repeat (first | exact TakeE.here | apply TakeE.there | apply TakeE.app))))) (VW.slv' (fun _ => rfl) rfl (by first | exact sub_n1 | exact sub_n2 | exact sub_news | exact (Sub.takeE0 (by repeat (first | exact TakeE.here | apply TakeE.there | apply TakeE.app))))))) ?_
        rintro _ H9 ⟨rfl, rfl⟩
        refine sr_x rfl (wtd_none rfl) rfl (Rd.x (x_pick_t rfl rfl rfl)) ?_
        refine sr_x rfl (wtd_none rfl) rfl (Rd.x (x_move rfl)) ?_
        refine sr_d rfl (wtd_yes rfl rfl rfl) rfl (opS_call rfl rfl rfl rfl cl23 (awake05_s _)) ?_
        rintro _ H9 ⟨rfl, rfl⟩
        refine sr_x rfl (wtd_none rfl) rfl (Rd.x (x_pick_t rfl rfl rfl)) ?_
        refine sr_x rfl (wtd_none rfl) rfl (Rd.x (x_assign rfl)) ?_
        refine sr_nil ?_
        refine aw_keep (keep_cons (t := 6) rfl keep_nil) ?_
        refine aw_ret ?_
        show ∃ v H2, ResV _ _ _ _ _ _ v ∧ Sub H2 _ ∧ _
        exact ⟨_, [], resV rfl (.cons rfl .nil), (Sub.nil _), rfl⟩
end
namespace ProfBackRow
open Go.ChangeShapes Go.WideShapes Go.ChangeAt Go.RowKit
theorem own : ownKnob Try.prog.godebug = none := by kernel_rfl
theorem laid : laidOutB Try.prog = true := by kernel_rfl
set_option maxRecDepth 100000 in
theorem lifted (os : Os) (started : os.Started) (H : Type) (enc : TypeId × Value → H) :
    ReturnsInHanded {} Try.checked os 6 .any (Rows.profBackSpec.pre6 enc Try.prog Try.f6 Rows.profBackRow.domain false) (Rows.profBackSpec.post enc Try.prog Try.f6 false true false false) := by
  refine law_lifted (C := Try.checked) (tb := 4) own started (by kernel_rfl) Try.func6 (ChangeSpec.witness6 (enc := enc) (C := Try.checked) false ⟨#[], #[.int .i64 0, .slice none 0 0, .agg #[.int .i64 0, .int .i64 0, .int .i64 0]], []⟩ 8 (by kernel_rfl) (by kernel_rfl) (by kernel_rfl) (by kernel_rfl)) rfl Try.underlying4 rfl laid (by kernel_rfl) ?_ ?_
  · intro ds h
    match ds, h with
    | [a0, a1, a2], _ => rfl
  · intro W base args ds ps hval hA hlt hsz
    have hA' : DataW.TrodAll enc Try.prog W 0 (fun _ => true) true [3, 22, 55] args ds ps := hA
    clear hA
    obtain ⟨v0, vs0, d0, ds0, p0, q0, rfl, rfl, rfl, h0, r0⟩ := trodAll_cons hA'
    obtain ⟨v1, vs1, d1, ds1, p1, q1, rfl, rfl, rfl, h1, r1⟩ := trodAll_cons r0
    obtain ⟨v2, vs2, d2, ds2, p2, q2, rfl, rfl, rfl, h2, r2⟩ := trodAll_cons r1
    obtain ⟨rfl, rfl, rfl⟩ := trodAll_nil r2
    obtain ⟨n, rfl, _⟩ := opn_int Try.underlying3 (hval 0 3 v0 rfl rfl) h0
    obtain ⟨a, cap, xs, rfl, hs, _⟩ := opn_slice (en := POp.cells) (Ok := fun j => j.Wf) Try.underlying22 cells39 (by decide) (fun fuel cs x h => read_POp h) (hval 1 22 v1 rfl rfl) h1
    obtain ⟨sp, rfl, _⟩ := open_PSpan (hval 2 55 v2 rfl rfl) h2
    by_cases hn : 0 ≤ n ∧ n ≤ 64
    · exact profBack_ok n a cap xs hs sp hn
    · exact profBack_bad n a cap xs hs sp hn
theorem joined : joinedFacts Try.prog 6 Try.f6 Rows.profBackSpec Rows.profBackRow = true := by
  unfold joinedFacts
  rw [cutMay, cutLif, cutMk]
  kernel_rfl
theorem over : Rows.profBackRow.holds Try.pinned (OpenSpec.ofChange Rows.profBackSpec) :=
  OpenClaim.holds_of_wide 6 Try.f6 rfl rfl rfl rfl rfl rfl rfl ⟨rfl, rfl, rfl, rfl, rfl⟩ rfl rfl rfl rfl rfl (by kernel_rfl) Try.func6 joined
    (of_decide_eq_true (by kernel_rfl)) (by unfold Func.isWrapper; first | (rw [if_pos (by decide +kernel)]; kernel_rfl) | (rw [if_neg (by decide +kernel)]; exact ⟨rfl, rfl⟩))
    (fun os started H enc _ => lifted os started H enc)
theorem proved : Rows.ProfBackSaid := over
#print axioms proved
end ProfBackRow
end Go.Proofs.Ytjkojdjjooangaa
