/- The steps of what is left, and spans that are cut off, are what the law's own functions tell; no condition. -/
import Derived.Test.YtjkojdjjooangaaSpnHelp
import Derived.Test.YtjkojdjjooangaaCut
import Derived.Test.YtjkojdjjooangaaRows
namespace Go.Proofs.Ytjkojdjjooangaa
open Go.Proofs.Ytjkojdjjooangaa.Sym
open Go.RowKit (Below)
set_option linter.unusedVariables false
set_option linter.unusedSimpArgs false
theorem cells2 : Try.prog.cellsOf 2 = 1 := by kernel_rfl
theorem cells3 : Try.prog.cellsOf 3 = 1 := by kernel_rfl
theorem cells55 : Try.prog.cellsOf 55 = 3 := by kernel_rfl
theorem cl54 : Callable Try.prog 54 := ⟨Try.f54, Try.func54, by kernel_rfl, by kernel_rfl⟩
theorem cl55 : Callable Try.prog 55 := ⟨Try.f55, Try.func55, by kernel_rfl, by kernel_rfl⟩
theorem cl56 : Callable Try.prog 56 := ⟨Try.f56, Try.func56, by kernel_rfl, by kernel_rfl⟩
theorem cl58 : Callable Try.prog 58 := ⟨Try.f58, Try.func58, by kernel_rfl, by kernel_rfl⟩
theorem cl65 : Callable Try.prog 65 := ⟨Try.f65, Try.func65, by kernel_rfl, by kernel_rfl⟩
theorem ks55 : kindsOf Try.prog 55 = some [.int, .int, .int] := by kernel_rfl
def Sym.PSpan.Wf (j : PSpan) : Prop := IntKind.min .i64 ≤ j.from_ ∧ j.from_ ≤ IntKind.max .i64 ∧ IntKind.min .i64 ≤ j.to_ ∧ j.to_ ≤ IntKind.max .i64 ∧ IntKind.min .i64 ≤ j.width ∧ j.width ≤ IntKind.max .i64
set_option maxRecDepth 100000 in
theorem read_PSpan {H : Type} {enc : TypeId × Value → H} {w : World} {base : Nat} {spare : Nat → Bool} {held : Bool} {fuel : Nat} {cs : List Value} {x : DataW H × List MemPlace} (h : DataW.trod enc Try.prog w base spare held fuel 55 cs = some x) : ∃ j : PSpan, cs = j.cells ∧ j.Wf := by
  obtain ⟨hlen, n, hf⟩ := read_struct Try.underlying55 h
  rw [cells55] at hlen
  obtain ⟨a0, e0, l0, u0⟩ := read_int Try.underlying2 cells2 (hf 0 _ rfl)
  obtain ⟨a1, e1, l1, u1⟩ := read_int Try.underlying2 cells2 (hf 1 _ rfl)
  obtain ⟨a2, e2, l2, u2⟩ := read_int Try.underlying3 cells3 (hf 2 _ rfl)
  refine ⟨⟨a0, a1, a2⟩, ?_, ⟨l0, u0, l1, u1, l2, u2⟩⟩
  apply List.ext_getElem?
  intro i
  match i with
  | 0 => exact e0
  | 1 => exact e1
  | 2 => exact e2
  | i + 3 => rw [List.getElem?_eq_none (by omega), List.getElem?_eq_none (by simp)]
set_option maxRecDepth 100000 in
theorem open_PSpan {H : Type} {enc : TypeId × Value → H} {w : World} {base b0 : Nat} {spare : Nat → Bool} {held : Bool} {v : Value} {d : DataW H} {p : List MemPlace} {r : Reach} (hv : Value.okWide Try.prog w r b0 55 v) (h : DataW.Trod enc Try.prog w base spare held 55 v d p) : ∃ j : PSpan, v = j.v ∧ j.Wf := by
  obtain ⟨cs, rfl, _⟩ := Go.WideShapes.okWide_struct Try.underlying55 hv
  obtain ⟨fuel, hf⟩ := h
  obtain ⟨j, h1, h2⟩ := read_PSpan hf
  refine ⟨j, ?_, h2⟩
  have : cs = j.cells.toArray := by apply Array.toList_inj.1; exact h1
  rw [this]
structure TkG where
  i : Nat
  k : Nat
  f : Int
structure TnG where
  j : Nat
  n : Nat
theorem drop_two {α : Type} {S r : List α} {n : Nat} {z : α} (h : S.drop n = z :: r) : S[n]? = some z ∧ S.drop (n + 1) = r := by
  have h1 : (S.drop n)[0]? = some z := by rw [h]; rfl
  rw [List.getElem?_drop, Nat.add_zero] at h1
  refine ⟨h1, ?_⟩
  rw [← List.drop_drop, h]; rfl

section
variable {W0 : World}
set_option maxRecDepth 100000 in
set_option maxHeartbeats 400000 in
theorem spanSteps_bad (a : Option Addr) (cap : Nat) (l : List PSpan) (hs0 : ∀ G, SlV W0 G 3 PSpan.cells a cap l) (all from_ : Int) (hall : ¬ (-1048576 ≤ all ∧ all ≤ 1048576)) : AC Try.prog W0 13 [.int .i64 all, .int .i64 from_, .slice a l.length cap] [] (fun v _ => v = .bool true) := by
  refine ac_of Try.func13 rfl rfl rfl ?_
  refine aw_seq_region ?_
  refine sr_x rfl (wtd_none rfl) rfl (Rd.x (x_assign rfl)) ?_
  refine sr_nil ?_
  refine aw_keep (keep_cons (t := 0) rfl (keep_cons (t := 1) rfl (keep_cons (t := 2) rfl (keep_cons (t := 6) rfl keep_nil)))) ?_
  refine aw_seq_region ?_
  refine sr_x rfl (wtd_none rfl) rfl (Rd.x (x_move rfl)) ?_
  refine sr_d rfl (wtd_none rfl) rfl (opS_call rfl rfl rfl rfl cl54 (few30_s a cap l _ (hs0 []).le (hs0 []).capb)) ?_
  rintro _ H9 ⟨rfl, rfl⟩
  obtain ⟨L, hLL⟩ : ∃ L, L = l.take 30 := ⟨_, rfl⟩
  have hs : ∀ G, SlV W0 G 3 PSpan.cells a cap L := fun G => hLL ▸ (hs0 G).take 30
  have hl30 : L.length ≤ 30 := by rw [hLL, List.length_take]; omega
  have hl : L.length ≤ 120 := by omega
  rw [← hLL]
  have hle := (hs []).le
  have hcb := (hs []).capb
  refine sr_x rfl (wtd_none rfl) rfl (Rd.x (x_assign rfl)) ?_
  refine sr_nil ?_
  refine aw_keep (keep_cons (t := 0) rfl (keep_cons (t := 1) rfl (keep_cons (t := 2) rfl (keep_cons (t := 6) rfl keep_nil)))) ?_
  refine aw_seq ?_
  refine aw_seq_region ?_
  refine sr_x rfl (wtd_none rfl) rfl (Rd.x (x_move rfl)) ?_
  refine sr_cmp rfl (wtd_none rfl) rfl (Rd.x (x_lt rfl rfl)) (fun h1 => ?_) (fun h1 => ?_)
  · refine sr_x rfl (wtd_none rfl) rfl (Rd.x (x_move rfl)) ?_
    refine sr_skip rfl (wtd_no rfl rfl rfl rfl) rfl ?_
    refine sr_skip rfl (wtd_no rfl rfl rfl rfl) rfl ?_
    refine sr_x rfl (wtd_none rfl) rfl (Rd.x (x_pick_t rfl rfl rfl)) ?_
    refine sr_nil ?_
    refine aw_keep (keep_cons (t := 0) rfl (keep_cons (t := 1) rfl (keep_cons (t := 2) rfl (keep_cons (t := 6) rfl (keep_cons (t := 23) rfl keep_nil))))) ?_
    refine aw_true rfl ?_
    refine aw_seq_region ?_
    refine sr_d rfl (wtd_none rfl) rfl (opS_call rfl rfl rfl rfl cl58 (awake04_s _)) ?_
    rintro _ H9 ⟨rfl, rfl⟩
    refine sr_x rfl (wtd_none rfl) rfl (Rd.x (x_assign rfl)) ?_
    refine sr_nil ?_
    refine aw_keep (keep_cons (t := 0) rfl (keep_cons (t := 1) rfl (keep_cons (t := 2) rfl (keep_cons (t := 6) rfl keep_nil)))) ?_
    refine aw_ret ?_
    show ∃ v H2, ResV _ _ _ _ _ _ v ∧ Sub H2 _ ∧ _
    exact ⟨_, [], resV rfl (.cons rfl .nil), (Sub.nil _), rfl⟩
  · refine sr_x rfl (wtd_none rfl) rfl (Rd.x (x_move rfl)) ?_
    refine sr_x rfl (wtd_yes rfl rfl rfl) rfl (Rd.x (x_move rfl)) ?_
    refine sr_cmp rfl (wtd_yes rfl rfl rfl) rfl (Rd.x (x_gt rfl rfl)) (fun h2 => ?_) (fun h2 => absurd (by first | omega | decide) h2)
    refine sr_x rfl (wtd_none rfl) rfl (Rd.x (x_pick_f rfl rfl rfl)) ?_
    refine sr_nil ?_
    refine aw_keep (keep_cons (t := 0) rfl (keep_cons (t := 1) rfl (keep_cons (t := 2) rfl (keep_cons (t := 6) rfl (keep_cons (t := 23) rfl keep_nil))))) ?_
    refine aw_true rfl ?_
    refine aw_seq_region ?_
    refine sr_d rfl (wtd_none rfl) rfl (opS_call rfl rfl rfl rfl cl58 (awake04_s _)) ?_
    rintro _ H9 ⟨rfl, rfl⟩
    refine sr_x rfl (wtd_none rfl) rfl (Rd.x (x_assign rfl)) ?_
    refine sr_nil ?_
    refine aw_keep (keep_cons (t := 0) rfl (keep_cons (t := 1) rfl (keep_cons (t := 2) rfl (keep_cons (t := 6) rfl keep_nil)))) ?_
    refine aw_ret ?_
    show ∃ v H2, ResV _ _ _ _ _ _ v ∧ Sub H2 _ ∧ _
    exact ⟨_, [], resV rfl (.cons rfl .nil), (Sub.nil _), rfl⟩
set_option maxRecDepth 100000 in
set_option maxHeartbeats 8000000 in
theorem spanSteps_ok (a : Option Addr) (cap : Nat) (l : List PSpan) (hs0 : ∀ G, SlV W0 G 3 PSpan.cells a cap l) (all from_ : Int) (hall : -1048576 ≤ all ∧ all ≤ 1048576) : AC Try.prog W0 13 [.int .i64 all, .int .i64 from_, .slice a l.length cap] [] (fun v _ => v = .bool true) := by
  refine ac_of Try.func13 rfl rfl rfl ?_
  refine aw_seq_region ?_
  refine sr_x rfl (wtd_none rfl) rfl (Rd.x (x_assign rfl)) ?_
  refine sr_nil ?_
  refine aw_keep (keep_cons (t := 0) rfl (keep_cons (t := 1) rfl (keep_cons (t := 2) rfl (keep_cons (t := 6) rfl keep_nil)))) ?_
  refine aw_seq_region ?_
  refine sr_x rfl (wtd_none rfl) rfl (Rd.x (x_move rfl)) ?_
  refine sr_d rfl (wtd_none rfl) rfl (opS_call rfl rfl rfl rfl cl54 (few30_s a cap l _ (hs0 []).le (hs0 []).capb)) ?_
  rintro _ H9 ⟨rfl, rfl⟩
  obtain ⟨L, hLL⟩ : ∃ L, L = l.take 30 := ⟨_, rfl⟩
  have hs : ∀ G, SlV W0 G 3 PSpan.cells a cap L := fun G => hLL ▸ (hs0 G).take 30
  have hl30 : L.length ≤ 30 := by rw [hLL, List.length_take]; omega
  have hl : L.length ≤ 120 := by omega
  rw [← hLL]
  have hle := (hs []).le
  have hcb := (hs []).capb
  refine sr_x rfl (wtd_none rfl) rfl (Rd.x (x_assign rfl)) ?_
  refine sr_nil ?_
  refine aw_keep (keep_cons (t := 0) rfl (keep_cons (t := 1) rfl (keep_cons (t := 2) rfl (keep_cons (t := 6) rfl keep_nil)))) ?_
  refine aw_seq ?_
  refine aw_seq_region ?_
  refine sr_x rfl (wtd_none rfl) rfl (Rd.x (x_move rfl)) ?_
  refine sr_cmp rfl (wtd_none rfl) rfl (Rd.x (x_lt rfl rfl)) (fun h1 => absurd h1 (by first | omega | decide)) (fun h1 => ?_)
  refine sr_x rfl (wtd_none rfl) rfl (Rd.x (x_move rfl)) ?_
  refine sr_x rfl (wtd_yes rfl rfl rfl) rfl (Rd.x (x_move rfl)) ?_
  refine sr_cmp rfl (wtd_yes rfl rfl rfl) rfl (Rd.x (x_gt rfl rfl)) (fun h2 => absurd h2 (by first | omega | decide)) (fun h2 => ?_)
  refine sr_x rfl (wtd_none rfl) rfl (Rd.x (x_pick_f rfl rfl rfl)) ?_
  refine sr_nil ?_
  refine aw_keep (keep_cons (t := 0) rfl (keep_cons (t := 1) rfl (keep_cons (t := 2) rfl (keep_cons (t := 6) rfl (keep_cons (t := 23) rfl keep_nil))))) ?_
  refine aw_false rfl ?_
  refine aw_skip ?_
  show AW _ _ _ _ _ _ _
  refine aw_seq_region ?_
  refine sr_x rfl (wtd_none rfl) rfl (Rd.x (x_move rfl)) ?_
  refine sr_x rfl (wtd_none rfl) rfl (Rd.x (x_move rfl)) ?_
  refine sr_x rfl (wtd_none rfl) rfl (Rd.x (x_move rfl)) ?_
  refine sr_d rfl (wtd_none rfl) rfl (opS_call rfl rfl rfl rfl cl64 (ssteps_s a cap L _ (hs _) hl all from_ (by omega))) ?_
  rintro _ _ ⟨X, S, a3, c3, E3, hX, hS, rfl, V3, rfl⟩
  have hab := fun t => atS_bd L t
  have haf := hab from_
  have hss := V3.slv' (W0 := W0) (fun _ => rfl) rfl (Sub.refl _)
  have hsl := hss.le
  have hsc := hss.capb
  have hS0 : S[0]? = some ⟨from_, all - atS L from_⟩ := by rw [hS]; rfl
  have hSd : S.drop (0 + 1) = stG (fun t => all - atS L t) from_ (all - atS L from_) (X.drop 0) := by rw [hS]; rfl
  have hS1 := get_lt hS0
  obtain ⟨b0, o0, ha0, hc0⟩ := hss.at_ _ _ hS0
  have hSle : S.length ≤ X.length + 1 := by (rw [hS]; have := stG_len (fun t => all - atS L t) from_ X ((fun t => all - atS L t) from_); unfold stepsS; rw [List.length_cons]; omega)
  refine sr_x rfl (wtd_none rfl) rfl (Rd.x (x_assign rfl)) ?_
  refine sr_nil ?_
  refine aw_keep (keep_cons (t := 0) rfl (keep_cons (t := 1) rfl (keep_cons (t := 2) rfl (keep_cons (t := 6) rfl (keep_cons (t := 7) rfl keep_nil))))) ?_
  refine aw_seq ?_
  refine aw_seq_dr ⟨_, 16, 149, [[], [0], [0, 1], [0, 1, 2], [0, 1, 2, 3], [0, 1, 2, 3, 4], [0, 1, 2, 3, 4, 5], [0, 1, 2, 3], [0, 1, 2, 3], [0, 1, 2, 3], [0, 1, 2, 3], [0, 1, 2, 3, 9, 10], [0, 1, 2, 3, 8, 9, 10, 11], [0, 1, 2, 3, 7, 8, 9, 10, 11, 12], [0, 1, 2, 3, 4, 5, 6, 7, 8, 9, 10, 11, 12, 13], [0, 1, 2, 3, 4, 5, 6, 7, 8, 9, 10, 11, 12, 13, 14]], [.light, .light, .light, .light, .light, .light, .mem, .light, .light, .light, .light, .call, .light, .light, .light, .light]⟩ (by kernel_rfl) rfl rfl mix ?_
  refine dr_light rfl rfl (wtd_none rfl) (x_move rfl) ?_
  refine dr_light rfl rfl (wtd_none rfl) (x_lenSlice Try.underlying43 rfl) ?_
  refine dr_cmp rfl rfl (wtd_none rfl) (x_eq rfl rfl) (fun h3 => absurd h3 (by first | omega | decide)) (fun h3 => ?_)
  refine dr_light rfl rfl (wtd_none rfl) (x_move rfl) ?_
  refine dr_light rfl rfl (wtd_yes rfl rfl rfl) (x_move rfl) ?_
  refine dr_light rfl rfl (wtd_yes rfl rfl rfl) (x_indexAddrN (0) Try.underlying43 sz76 rfl ha0 rfl (by omega) (by omega)) ?_
  refine dr_mem0 rfl rfl (wtd_yes rfl rfl rfl) (x_loadN ag76 sz76 rfl (Cells.mono hc0 (Sub.takeE0 (by repeat (first | exact TakeE.here | apply TakeE.there | apply TakeE.app)))) rfl) ?_
  refine dr_light rfl rfl (wtd_yes rfl rfl rfl) (x_move rfl) ?_
  refine dr_light rfl rfl (wtd_yes rfl rfl rfl) (x_move rfl) ?_
  refine dr_light rfl rfl (wtd_yes rfl rfl rfl) (x_move rfl) ?_
  refine dr_light rfl rfl (wtd_yes rfl rfl rfl) (x_move rfl) ?_
  refine dr_callq0 rfl rfl (wtd_yes rfl rfl rfl) (opS_F rfl rfl rfl rfl cl55 ((rat_s a cap L _ (hs _) hl from_))) (⟨_, rfl⟩) ?_
  rintro _ rfl
  refine dr_light rfl rfl (wtd_yes rfl rfl rfl) (x_sub' rfl rfl (i64w (by omega) (by omega))) ?_
  refine dr_light rfl rfl (wtd_yes rfl rfl rfl) (x_build zr76 rfl fl76 (by repeat (first | exact Parts.nil | (apply Parts.cons; rfl))) (by repeat (first | exact Fill.done | (apply Fill.part; rfl; rfl; rfl; focus (repeat (first | exact Spl.done | exact Spl.all rfl | apply Spl.put | apply Spl.skip)))))) ?_
  refine dr_cmp rfl rfl (wtd_yes rfl rfl rfl) (x_neStruct Try.underlying76 ks76 rfl rfl rfl rfl rfl) (fun h4 => absurd h4 (by simp [eqC, sEq])) (fun h4 => ?_)
  refine dr_light rfl rfl (wtd_none rfl) (x_pick_f rfl rfl rfl) ?_
  refine dr_nil0 ?_
  refine aw_keep (keep_cons (t := 0) rfl (keep_cons (t := 1) rfl (keep_cons (t := 2) rfl (keep_cons (t := 6) rfl (keep_cons (t := 7) rfl (keep_cons (t := 44) rfl keep_nil)))))) ?_
  refine aw_false rfl ?_
  refine aw_skip ?_
  show AW _ _ _ _ _ _ _
  refine aw_seq_region ?_
  refine sr_x rfl (wtd_none rfl) rfl (Rd.x (x_move rfl)) ?_
  refine sr_d rfl (wtd_none rfl) rfl (opS_call rfl rfl rfl rfl cl56 (rtimes_s a cap L _ (hs _) hl)) ?_
  rintro _ _ ⟨Y, a2, c2, E2, rfl, hY, V2, rfl⟩
  have hse := V2.slv' (W0 := W0) (fun _ => rfl) rfl (Sub.refl _)
  have hsel := hse.le
  have hsec := hse.capb
  obtain rfl := hX.uniq hY
  have hX1 := hX.len
  have hX2 := tmL_len L
  refine sr_x rfl (wtd_none rfl) rfl (Rd.x (x_assign rfl)) ?_
  refine sr_nil ?_
  refine aw_keep (keep_cons (t := 0) rfl (keep_cons (t := 1) rfl (keep_cons (t := 2) rfl (keep_cons (t := 6) rfl (keep_cons (t := 7) rfl (keep_cons (t := 8) rfl keep_nil)))))) ?_
  refine aw_seq_region ?_
  refine sr_x rfl (wtd_none rfl) rfl (Rd.x (x_assign rfl)) ?_
  refine sr_nil ?_
  refine aw_keep (keep_cons (t := 0) rfl (keep_cons (t := 1) rfl (keep_cons (t := 2) rfl (keep_cons (t := 6) rfl (keep_cons (t := 7) rfl (keep_cons (t := 8) rfl (keep_cons (t := 9) rfl keep_nil))))))) ?_
  refine aw_seq ?_
  refine aw_seq_region ?_
  refine sr_x rfl (wtd_none rfl) rfl (Rd.x (x_assign rfl)) ?_
  refine sr_nil ?_
  refine aw_keep (keep_cons (t := 0) rfl (keep_cons (t := 1) rfl (keep_cons (t := 2) rfl (keep_cons (t := 6) rfl (keep_cons (t := 7) rfl (keep_cons (t := 8) rfl (keep_cons (t := 9) rfl (keep_cons (t := 10) rfl keep_nil)))))))) ?_
  refine aw_block ?_
  refine aw_loop (ι := TkG) (fun s => s.i ≤ X.length ∧ s.k ≤ s.i ∧ (∃ y : PStep, S[s.k]? = some y ∧ y.free = s.f) ∧ S.drop (s.k + 1) = stG (fun t => all - atS L t) from_ s.f (X.drop s.i)) (fun s => [(0, .int .i64 all), (1, .int .i64 from_), (2, .slice a L.length cap), (6, .bool false), (7, .slice a3 S.length c3), (8, .slice a2 X.length c2), (9, .int .i64 s.k), (10, .int .i64 s.i)]) (fun _ => E2 ++ (E3 ++ [])) (fun s => X.length - s.i) ⟨0, 0, all - atS L from_⟩ (⟨Nat.zero_le _, Nat.le_refl _, ⟨_, hS0, rfl⟩, hSd⟩) (by (repeat (first | exact keep_nil | refine keep_cons rfl ?_)); first | done | fail) Sub.autoP ?_
  intro s9 hs9
  obtain ⟨i, k, f⟩ := s9
  dsimp only at hs9 ⊢
  obtain ⟨hi, hki, ⟨y, hy, hyf⟩, hdr⟩ := hs9
  have hky := get_lt hy
  obtain ⟨by_, oy, hay, hcy⟩ := hss.at_ _ _ hy
  refine aw_seq ?_
  refine aw_seq_region ?_
  refine sr_x rfl (wtd_none rfl) rfl (Rd.x (x_move rfl)) ?_
  refine sr_x rfl (wtd_none rfl) rfl (Rd.x (x_move rfl)) ?_
  refine sr_x rfl (wtd_none rfl) rfl (Rd.x (x_lenSlice Try.underlying87 rfl)) ?_
  refine sr_cmp rfl (wtd_none rfl) rfl (Rd.x (x_lt rfl rfl)) (fun h5 => ?_) (fun h5 => ?_)
  · refine sr_nil ?_
    refine aw_keep (keep_cons (t := 0) rfl (keep_cons (t := 1) rfl (keep_cons (t := 2) rfl (keep_cons (t := 6) rfl (keep_cons (t := 7) rfl (keep_cons (t := 8) rfl (keep_cons (t := 9) rfl (keep_cons (t := 10) rfl (keep_cons (t := 47) rfl (keep_cons (t := 48) rfl (keep_cons (t := 49) rfl (keep_cons (t := 50) rfl keep_nil)))))))))))) ?_
    refine aw_true rfl ?_
    refine aw_skip ?_
    show AW _ _ _ _ _ _ _
    refine aw_seq ?_
    refine aw_block ?_
    refine aw_seq_region ?_
    obtain ⟨t, ht⟩ := get_ex (show i < X.length by omega)
    obtain ⟨bt, ot, hat, hct⟩ := hse.at_ _ _ ht
    refine sr_x rfl (wtd_none rfl) rfl (Rd.x (x_move rfl)) ?_
    refine sr_x rfl (wtd_none rfl) rfl (Rd.x (x_move rfl)) ?_
    refine sr_x rfl (wtd_none rfl) rfl (Rd.x (x_move rfl)) ?_
    refine sr_x rfl (wtd_none rfl) rfl (Rd.x (x_indexAddrN (i) Try.underlying87 sz2 rfl hat rfl (by omega) (by omega))) ?_
    refine sr_x rfl (wtd_none rfl) rfl (Rd.x (x_load ag2 rfl (cells_get (Cells.mono hct (Sub.takeE0 (by repeat (first | exact TakeE.here | apply TakeE.there | apply TakeE.app)))) 0 rfl))) ?_
    refine sr_x rfl (wtd_none rfl) rfl (Rd.x (x_move rfl)) ?_
    refine sr_d rfl (wtd_none rfl) rfl (opS_call rfl rfl rfl rfl cl55 (rat_s a cap L _ (hs _) hl t)) ?_
    rintro _ H9 ⟨rfl, rfl⟩
    have hat9 := hab t
    refine sr_x rfl (wtd_none rfl) rfl (Rd.x (x_sub' rfl rfl (i64w (by omega) (by omega)))) ?_
    refine sr_x rfl (wtd_none rfl) rfl (Rd.x (x_assign rfl)) ?_
    refine sr_nil ?_
    refine aw_keep (keep_cons (t := 0) rfl (keep_cons (t := 1) rfl (keep_cons (t := 2) rfl (keep_cons (t := 6) rfl (keep_cons (t := 7) rfl (keep_cons (t := 8) rfl (keep_cons (t := 9) rfl (keep_cons (t := 10) rfl (keep_cons (t := 11) rfl (keep_cons (t := 47) rfl (keep_cons (t := 48) rfl (keep_cons (t := 49) rfl (keep_cons (t := 50) rfl (keep_cons (t := 53) rfl (keep_cons (t := 54) rfl (keep_cons (t := 55) rfl (keep_cons (t := 56) rfl (keep_cons (t := 57) rfl (keep_cons (t := 58) rfl (keep_cons (t := 59) rfl (keep_cons (t := 60) rfl keep_nil))))))))))))))))))))) ?_
    refine aw_seq_region ?_
    refine sr_x rfl (wtd_none rfl) rfl (Rd.x (x_move rfl)) ?_
    refine sr_x rfl (wtd_none rfl) rfl (Rd.x (x_move rfl)) ?_
    refine sr_x rfl (wtd_none rfl) rfl (Rd.x (x_indexAddrN (i) Try.underlying87 sz2 rfl hat rfl (by omega) (by omega))) ?_
    refine sr_x rfl (wtd_none rfl) rfl (Rd.x (x_load ag2 rfl (cells_get (Cells.mono hct (Sub.takeE0 (by repeat (first | exact TakeE.here | apply TakeE.there | apply TakeE.app)))) 0 rfl))) ?_
    refine sr_x rfl (wtd_none rfl) rfl (Rd.x (x_move rfl)) ?_
    refine sr_cmp rfl (wtd_none rfl) rfl (Rd.x (x_gt rfl rfl)) (fun h6 => ?_) (fun h6 => ?_)
    · refine sr_x rfl (wtd_none rfl) rfl (Rd.x (x_move rfl)) ?_
      refine sr_x rfl (wtd_yes rfl rfl rfl) rfl (Rd.x (x_move rfl)) ?_
      refine sr_x rfl (wtd_yes rfl rfl rfl) rfl (Rd.x (x_move rfl)) ?_
      refine sr_x rfl (wtd_yes rfl rfl rfl) rfl (Rd.x (x_move rfl)) ?_
      refine sr_x rfl (wtd_yes rfl rfl rfl) rfl (Rd.x (x_indexAddrN (k) Try.underlying43 sz76 rfl hay rfl (by omega) (by omega))) ?_
      refine sr_x rfl (wtd_yes rfl rfl rfl) rfl (Rd.x (x_fieldAddr fd76_1 rfl)) ?_
      refine sr_x rfl (wtd_yes rfl rfl rfl) rfl (Rd.x (x_load ag3 rfl (cells_get (Cells.mono hcy (Sub.takeE0 (by repeat (first | exact TakeE.here | apply TakeE.there | apply TakeE.app)))) 1 rfl))) ?_
      refine sr_cmp rfl (wtd_yes rfl rfl rfl) rfl (Rd.x (x_ne rfl rfl)) (fun h7 => ?_) (fun h7 => ?_)
      · refine sr_x rfl (wtd_none rfl) rfl (Rd.x (x_pick_t rfl rfl rfl)) ?_
        refine sr_nil ?_
        refine aw_keep (keep_cons (t := 0) rfl (keep_cons (t := 1) rfl (keep_cons (t := 2) rfl (keep_cons (t := 6) rfl (keep_cons (t := 7) rfl (keep_cons (t := 8) rfl (keep_cons (t := 9) rfl (keep_cons (t := 10) rfl (keep_cons (t := 11) rfl (keep_cons (t := 47) rfl (keep_cons (t := 48) rfl (keep_cons (t := 49) rfl (keep_cons (t := 50) rfl (keep_cons (t := 53) rfl (keep_cons (t := 54) rfl (keep_cons (t := 55) rfl (keep_cons (t := 56) rfl (keep_cons (t := 57) rfl (keep_cons (t := 58) rfl (keep_cons (t := 59) rfl (keep_cons (t := 60) rfl (keep_cons (t := 61) rfl (keep_cons (t := 62) rfl (keep_cons (t := 63) rfl (keep_cons (t := 64) rfl (keep_cons (t := 65) rfl (keep_cons (t := 66) rfl (keep_cons (t := 67) rfl (keep_cons (t := 68) rfl (keep_cons (t := 69) rfl (keep_cons (t := 70) rfl (keep_cons (t := 71) rfl (keep_cons (t := 72) rfl (keep_cons (t := 73) rfl (keep_cons (t := 74) rfl (keep_cons (t := 75) rfl keep_nil)))))))))))))))))))))))))))))))))))) ?_
        refine aw_true rfl ?_
        refine aw_seq_region ?_
        refine sr_x rfl (wtd_none rfl) rfl (Rd.x (x_move rfl)) ?_
        refine sr_x rfl (wtd_none rfl) rfl (Rd.x (x_cast (u := .int .i64 ((k + 1 : Nat) : Int)) (x_add' rfl rfl (i64w (by omega) (by omega))) (by congr 1))) ?_
        refine sr_x rfl (wtd_none rfl) rfl (Rd.x (x_assign rfl)) ?_
        refine sr_nil ?_
        refine aw_keep (keep_cons (t := 0) rfl (keep_cons (t := 1) rfl (keep_cons (t := 2) rfl (keep_cons (t := 6) rfl (keep_cons (t := 7) rfl (keep_cons (t := 8) rfl (keep_cons (t := 9) rfl (keep_cons (t := 10) rfl (keep_cons (t := 11) rfl (keep_cons (t := 47) rfl (keep_cons (t := 48) rfl (keep_cons (t := 49) rfl (keep_cons (t := 50) rfl (keep_cons (t := 53) rfl (keep_cons (t := 54) rfl (keep_cons (t := 55) rfl (keep_cons (t := 56) rfl (keep_cons (t := 57) rfl (keep_cons (t := 58) rfl (keep_cons (t := 59) rfl (keep_cons (t := 60) rfl (keep_cons (t := 61) rfl (keep_cons (t := 62) rfl (keep_cons (t := 63) rfl (keep_cons (t := 64) rfl (keep_cons (t := 65) rfl (keep_cons (t := 66) rfl (keep_cons (t := 67) rfl (keep_cons (t := 68) rfl (keep_cons (t := 69) rfl (keep_cons (t := 70) rfl (keep_cons (t := 71) rfl (keep_cons (t := 72) rfl (keep_cons (t := 73) rfl (keep_cons (t := 74) rfl (keep_cons (t := 75) rfl (keep_cons (t := 76) rfl (keep_cons (t := 77) rfl keep_nil)))))))))))))))))))))))))))))))))))))) ?_
        refine aw_seq_dr ⟨_, 17, 149, [[], [], [1], [0, 1, 2], [0, 1, 2, 3], [0, 1, 2, 3, 4], [0, 1, 2, 3, 4], [0, 1, 2, 3, 4, 5, 6], [0, 1, 2, 3, 4, 5, 6, 7], [0, 1, 2, 3, 4], [0, 1, 2, 3, 4], [0, 1, 2, 3, 4, 9, 10], [0, 1, 2, 3, 4, 9, 10, 11], [0, 1, 2, 3, 4], [0, 1, 2, 3, 4, 9, 10, 11, 12, 13], [0, 1, 2, 3, 4, 5, 6, 7, 8, 9, 10, 11, 12, 13, 14], [0, 1, 2, 3, 4, 5, 6, 7, 8, 9, 10, 11, 12, 13, 14, 15]], [.light, .light, .light, .light, .light, .light, .light, .light, .mem, .light, .light, .light, .mem, .light, .light, .light, .light]⟩ (by kernel_rfl) rfl rfl mix ?_
        have hz := drop_two (hdr.trans (stG_put ht (by omega) (by omega)))
        have hkz := get_lt hz.1
        obtain ⟨bz, oz, haz, hcz⟩ := hss.at_ _ _ hz.1
        refine dr_light rfl rfl (wtd_none rfl) (x_move rfl) ?_
        refine dr_light rfl rfl (wtd_none rfl) (x_move rfl) ?_
        refine dr_light rfl rfl (wtd_none rfl) (x_lenSlice Try.underlying43 rfl) ?_
        refine dr_cmp rfl rfl (wtd_none rfl) (x_ge rfl rfl) (fun h8 => absurd h8 (by first | omega | decide)) (fun h8 => ?_)
        refine dr_light rfl rfl (wtd_none rfl) (x_move rfl) ?_
        refine dr_light rfl rfl (wtd_yes rfl rfl rfl) (x_move rfl) ?_
        refine dr_light rfl rfl (wtd_yes rfl rfl rfl) (x_move rfl) ?_
        refine dr_light rfl rfl (wtd_yes rfl rfl rfl) (x_indexAddrN (k + 1) Try.underlying43 sz76 rfl haz rfl (by omega) (by omega)) ?_
        refine dr_mem0 rfl rfl (wtd_yes rfl rfl rfl) (x_loadN ag76 sz76 rfl (Cells.mono hcz (Sub.takeE0 (by repeat (first | exact TakeE.here | apply TakeE.there | apply TakeE.app)))) rfl) ?_
        refine dr_light rfl rfl (wtd_yes rfl rfl rfl) (x_move rfl) ?_
        refine dr_light rfl rfl (wtd_yes rfl rfl rfl) (x_move rfl) ?_
        refine dr_light rfl rfl (wtd_yes rfl rfl rfl) (x_indexAddrN (i) Try.underlying87 sz2 rfl hat rfl (by omega) (by omega)) ?_
        refine dr_mem0 rfl rfl (wtd_yes rfl rfl rfl) (x_load ag2 rfl (cells_get (Cells.mono hct (Sub.takeE0 (by repeat (first | exact TakeE.here | apply TakeE.there | apply TakeE.app)))) 0 rfl)) ?_
        refine dr_light rfl rfl (wtd_yes rfl rfl rfl) (x_move rfl) ?_
        refine dr_light rfl rfl (wtd_yes rfl rfl rfl) (x_build zr76 rfl fl76 (by repeat (first | exact Parts.nil | (apply Parts.cons; rfl))) (by repeat (first | exact Fill.done | (apply Fill.part; rfl; rfl; rfl; focus (repeat (first | exact Spl.done | exact Spl.all rfl | apply Spl.put | apply Spl.skip)))))) ?_
        refine dr_cmp rfl rfl (wtd_yes rfl rfl rfl) (x_neStruct Try.underlying76 ks76 rfl rfl rfl rfl rfl) (fun h9 => absurd h9 (by simp [eqC, sEq])) (fun h9 => ?_)
        refine dr_light rfl rfl (wtd_none rfl) (x_pick_f rfl rfl rfl) ?_
        refine dr_nil0 ?_
        refine aw_keep (keep_cons (t := 0) rfl (keep_cons (t := 1) rfl (keep_cons (t := 2) rfl (keep_cons (t := 6) rfl (keep_cons (t := 7) rfl (keep_cons (t := 8) rfl (keep_cons (t := 9) rfl (keep_cons (t := 10) rfl (keep_cons (t := 11) rfl (keep_cons (t := 47) rfl (keep_cons (t := 48) rfl (keep_cons (t := 49) rfl (keep_cons (t := 50) rfl (keep_cons (t := 53) rfl (keep_cons (t := 54) rfl (keep_cons (t := 55) rfl (keep_cons (t := 56) rfl (keep_cons (t := 57) rfl (keep_cons (t := 58) rfl (keep_cons (t := 59) rfl (keep_cons (t := 60) rfl (keep_cons (t := 61) rfl (keep_cons (t := 62) rfl (keep_cons (t := 63) rfl (keep_cons (t := 64) rfl (keep_cons (t := 65) rfl (keep_cons (t := 66) rfl (keep_cons (t := 67) rfl (keep_cons (t := 68) rfl (keep_cons (t := 69) rfl (keep_cons (t := 70) rfl (keep_cons (t := 71) rfl (keep_cons (t := 72) rfl (keep_cons (t := 73) rfl (keep_cons (t := 74) rfl (keep_cons (t := 75) rfl (keep_cons (t := 76) rfl (keep_cons (t := 77) rfl (keep_cons (t := 78) rfl (keep_cons (t := 79) rfl (keep_cons (t := 80) rfl (keep_cons (t := 81) rfl (keep_cons (t := 82) rfl (keep_cons (t := 83) rfl (keep_cons (t := 84) rfl (keep_cons (t := 85) rfl (keep_cons (t := 86) rfl (keep_cons (t := 87) rfl (keep_cons (t := 88) rfl (keep_cons (t := 89) rfl (keep_cons (t := 90) rfl (keep_cons (t := 91) rfl (keep_cons (t := 92) rfl (keep_cons (t := 93) rfl (keep_cons (t := 94) rfl keep_nil))))))))))))))))))))))))))))))))))))))))))))))))))))))) ?_
        refine aw_false rfl ?_
        refine aw_skip ?_
        show AW _ _ _ _ _ _ _
        refine aw_region ?_
        refine sr_x rfl (wtd_none rfl) rfl (Rd.x (x_move rfl)) ?_
        refine sr_x rfl (wtd_none rfl) rfl (Rd.x (x_add' rfl rfl (i64w (by omega) (by omega)))) ?_
        refine sr_x rfl (wtd_none rfl) rfl (Rd.x (x_assign rfl)) ?_
        refine sr_nil ?_
        show ∃ s', _ ∧ _ ∧ _ ∧ _
        first | exact ⟨⟨i + 1, k + 1, all - atS L t⟩, ⟨by dsimp only; omega, by dsimp only; omega, ⟨_, hz.1, rfl⟩, hz.2⟩, by dsimp only; omega, (by (repeat (first | exact keep_nil | refine keep_cons rfl ?_)); first | done | fail), Sub.autoD⟩ | exact ⟨⟨i + 1, k, f⟩, ⟨by dsimp only; omega, by dsimp only; omega, ⟨y, hy, hyf⟩, hdr.trans (stG_skip ht (by omega))⟩, by dsimp only; omega, (by (repeat (first | exact keep_nil | refine keep_cons rfl ?_)); first | done | fail), Sub.autoD⟩
      · refine sr_x rfl (wtd_none rfl) rfl (Rd.x (x_pick_t rfl rfl rfl)) ?_
        refine sr_nil ?_
        refine aw_keep (keep_cons (t := 0) rfl (keep_cons (t := 1) rfl (keep_cons (t := 2) rfl (keep_cons (t := 6) rfl (keep_cons (t := 7) rfl (keep_cons (t := 8) rfl (keep_cons (t := 9) rfl (keep_cons (t := 10) rfl (keep_cons (t := 11) rfl (keep_cons (t := 47) rfl (keep_cons (t := 48) rfl (keep_cons (t := 49) rfl (keep_cons (t := 50) rfl (keep_cons (t := 53) rfl (keep_cons (t := 54) rfl (keep_cons (t := 55) rfl (keep_cons (t := 56) rfl (keep_cons (t := 57) rfl (keep_cons (t := 58) rfl (keep_cons (t := 59) rfl (keep_cons (t := 60) rfl (keep_cons (t := 61) rfl (keep_cons (t := 62) rfl (keep_cons (t := 63) rfl (keep_cons (t := 64) rfl (keep_cons (t := 65) rfl (keep_cons (t := 66) rfl (keep_cons (t := 67) rfl (keep_cons (t := 68) rfl (keep_cons (t := 69) rfl (keep_cons (t := 70) rfl (keep_cons (t := 71) rfl (keep_cons (t := 72) rfl (keep_cons (t := 73) rfl (keep_cons (t := 74) rfl (keep_cons (t := 75) rfl keep_nil)))))))))))))))))))))))))))))))))))) ?_
        refine aw_false rfl ?_
        refine aw_skip ?_
        show AW _ _ _ _ _ _ _
        refine aw_region ?_
        refine sr_x rfl (wtd_none rfl) rfl (Rd.x (x_move rfl)) ?_
        refine sr_x rfl (wtd_none rfl) rfl (Rd.x (x_add' rfl rfl (i64w (by omega) (by omega)))) ?_
        refine sr_x rfl (wtd_none rfl) rfl (Rd.x (x_assign rfl)) ?_
        refine sr_nil ?_
        show ∃ s', _ ∧ _ ∧ _ ∧ _
        first | exact ⟨⟨i + 1, k + 1, all - atS L t⟩, ⟨by dsimp only; omega, by dsimp only; omega, ⟨_, hz.1, rfl⟩, hz.2⟩, by dsimp only; omega, (by (repeat (first | exact keep_nil | refine keep_cons rfl ?_)); first | done | fail), Sub.autoD⟩ | exact ⟨⟨i + 1, k, f⟩, ⟨by dsimp only; omega, by dsimp only; omega, ⟨y, hy, hyf⟩, hdr.trans (stG_skip ht (by omega))⟩, by dsimp only; omega, (by (repeat (first | exact keep_nil | refine keep_cons rfl ?_)); first | done | fail), Sub.autoD⟩
    · refine sr_x rfl (wtd_none rfl) rfl (Rd.x (x_move rfl)) ?_
      refine sr_skip rfl (wtd_no rfl rfl rfl rfl) rfl ?_
      refine sr_skip rfl (wtd_no rfl rfl rfl rfl) rfl ?_
      refine sr_skip rfl (wtd_no rfl rfl rfl rfl) rfl ?_
      refine sr_skip rfl (wtd_no rfl rfl rfl rfl) rfl ?_
      refine sr_skip rfl (wtd_no rfl rfl rfl rfl) rfl ?_
      refine sr_skip rfl (wtd_no rfl rfl rfl rfl) rfl ?_
      refine sr_skip rfl (wtd_no rfl rfl rfl rfl) rfl ?_
      refine sr_x rfl (wtd_none rfl) rfl (Rd.x (x_pick_f rfl rfl rfl)) ?_
      refine sr_nil ?_
      refine aw_keep (keep_cons (t := 0) rfl (keep_cons (t := 1) rfl (keep_cons (t := 2) rfl (keep_cons (t := 6) rfl (keep_cons (t := 7) rfl (keep_cons (t := 8) rfl (keep_cons (t := 9) rfl (keep_cons (t := 10) rfl (keep_cons (t := 11) rfl (keep_cons (t := 47) rfl (keep_cons (t := 48) rfl (keep_cons (t := 49) rfl (keep_cons (t := 50) rfl (keep_cons (t := 53) rfl (keep_cons (t := 54) rfl (keep_cons (t := 55) rfl (keep_cons (t := 56) rfl (keep_cons (t := 57) rfl (keep_cons (t := 58) rfl (keep_cons (t := 59) rfl (keep_cons (t := 60) rfl (keep_cons (t := 61) rfl (keep_cons (t := 62) rfl (keep_cons (t := 63) rfl (keep_cons (t := 64) rfl (keep_cons (t := 65) rfl (keep_cons (t := 66) rfl (keep_cons (t := 67) rfl (keep_cons (t := 68) rfl (keep_cons (t := 69) rfl (keep_cons (t := 70) rfl (keep_cons (t := 71) rfl (keep_cons (t := 72) rfl (keep_cons (t := 73) rfl (keep_cons (t := 74) rfl (keep_cons (t := 75) rfl keep_nil)))))))))))))))))))))))))))))))))))) ?_
      refine aw_false rfl ?_
      refine aw_skip ?_
      show AW _ _ _ _ _ _ _
      refine aw_region ?_
      refine sr_x rfl (wtd_none rfl) rfl (Rd.x (x_move rfl)) ?_
      refine sr_x rfl (wtd_none rfl) rfl (Rd.x (x_add' rfl rfl (i64w (by omega) (by omega)))) ?_
      refine sr_x rfl (wtd_none rfl) rfl (Rd.x (x_assign rfl)) ?_
      refine sr_nil ?_
      show ∃ s', _ ∧ _ ∧ _ ∧ _
      first | exact ⟨⟨i + 1, k + 1, all - atS L t⟩, ⟨by dsimp only; omega, by dsimp only; omega, ⟨_, hz.1, rfl⟩, hz.2⟩, by dsimp only; omega, (by (repeat (first | exact keep_nil | refine keep_cons rfl ?_)); first | done | fail), Sub.autoD⟩ | exact ⟨⟨i + 1, k, f⟩, ⟨by dsimp only; omega, by dsimp only; omega, ⟨y, hy, hyf⟩, hdr.trans (stG_skip ht (by omega))⟩, by dsimp only; omega, (by (repeat (first | exact keep_nil | refine keep_cons rfl ?_)); first | done | fail), Sub.autoD⟩
  · refine sr_nil ?_
    refine aw_keep (keep_cons (t := 0) rfl (keep_cons (t := 1) rfl (keep_cons (t := 2) rfl (keep_cons (t := 6) rfl (keep_cons (t := 7) rfl (keep_cons (t := 8) rfl (keep_cons (t := 9) rfl (keep_cons (t := 10) rfl (keep_cons (t := 47) rfl (keep_cons (t := 48) rfl (keep_cons (t := 49) rfl (keep_cons (t := 50) rfl keep_nil)))))))))))) ?_
    refine aw_false rfl ?_
    refine aw_exit ?_
    show AW _ _ _ _ _ _ _
    refine aw_seq ?_
    refine aw_seq_region ?_
    have hSend : S.length ≤ k + 1 := by (rw [List.drop_of_length_le (show X.length ≤ i by omega)] at hdr; exact List.drop_eq_nil_iff.1 hdr)
    refine sr_x rfl (wtd_none rfl) rfl (Rd.x (x_move rfl)) ?_
    refine sr_x rfl (wtd_none rfl) rfl (Rd.x (x_move rfl)) ?_
    refine sr_x rfl (wtd_none rfl) rfl (Rd.x (x_lenSlice Try.underlying43 rfl)) ?_
    refine sr_x rfl (wtd_none rfl) rfl (Rd.x (x_sub' rfl rfl (i64w (by omega) (by omega)))) ?_
    refine sr_cmp rfl (wtd_none rfl) rfl (Rd.x (x_ne rfl rfl)) (fun h10 => absurd h10 (by first | omega | decide)) (fun h10 => ?_)
    refine sr_nil ?_
    refine aw_keep (keep_cons (t := 1) rfl (keep_cons (t := 2) rfl (keep_cons (t := 6) rfl (keep_cons (t := 99) rfl keep_nil)))) ?_
    refine aw_false rfl ?_
    refine aw_skip ?_
    show AW _ _ _ _ _ _ _
    refine aw_seq_region ?_
    refine sr_x rfl (wtd_none rfl) rfl (Rd.x (x_move rfl)) ?_
    refine sr_x rfl (wtd_none rfl) rfl (Rd.x (x_move rfl)) ?_
    refine sr_d rfl (wtd_none rfl) rfl (opS_call rfl rfl rfl rfl cl65 (scut_s a cap L _ (hs _) hl from_)) ?_
    rintro _ _ ⟨a4, c4, E4, rfl, V4, rfl⟩
    obtain ⟨C, hC⟩ : ∃ C, C = cutL L from_ := ⟨_, rfl⟩
    have hCl := cutL_len L from_
    rw [← hC] at V4 hCl ⊢
    have hsq := V4.slv' (W0 := W0) (fun _ => rfl) rfl (Sub.refl _)
    have hql := hsq.le
    have hqc := hsq.capb
    refine sr_x rfl (wtd_none rfl) rfl (Rd.x (x_assign rfl)) ?_
    refine sr_nil ?_
    refine aw_keep (keep_cons (t := 1) rfl (keep_cons (t := 2) rfl (keep_cons (t := 6) rfl (keep_cons (t := 12) rfl keep_nil)))) ?_
    refine aw_seq_region ?_
    refine sr_x rfl (wtd_none rfl) rfl (Rd.x (x_assign rfl)) ?_
    refine sr_nil ?_
    refine aw_keep (keep_cons (t := 1) rfl (keep_cons (t := 2) rfl (keep_cons (t := 6) rfl (keep_cons (t := 12) rfl (keep_cons (t := 13) rfl keep_nil))))) ?_
    refine aw_seq ?_
    refine aw_seq_region ?_
    refine sr_x rfl (wtd_none rfl) rfl (Rd.x (x_assign rfl)) ?_
    refine sr_nil ?_
    refine aw_keep (keep_cons (t := 1) rfl (keep_cons (t := 2) rfl (keep_cons (t := 6) rfl (keep_cons (t := 12) rfl (keep_cons (t := 13) rfl (keep_cons (t := 14) rfl keep_nil)))))) ?_
    refine aw_block ?_
    refine aw_loop (ι := TnG) (fun s => s.j ≤ L.length ∧ s.n = (cutL (L.take s.j) from_).length) (fun s => [(1, .int .i64 from_), (2, .slice a L.length cap), (6, .bool false), (12, .slice a4 C.length c4), (13, .int .i64 s.n), (14, .int .i64 s.j)]) (fun _ => E4 ++ (E2 ++ (E3 ++ []))) (fun s => L.length - s.j) ⟨0, 0⟩ (⟨Nat.zero_le _, rfl⟩) (by (repeat (first | exact keep_nil | refine keep_cons rfl ?_)); first | done | fail) Sub.autoP ?_
    intro s8 hs8
    obtain ⟨j, n⟩ := s8
    dsimp only at hs8 ⊢
    obtain ⟨hj, hn⟩ := hs8
    refine aw_seq ?_
    refine aw_seq_region ?_
    refine sr_x rfl (wtd_none rfl) rfl (Rd.x (x_move rfl)) ?_
    refine sr_x rfl (wtd_none rfl) rfl (Rd.x (x_move rfl)) ?_
    refine sr_x rfl (wtd_none rfl) rfl (Rd.x (x_lenSlice Try.underlying34 rfl)) ?_
    refine sr_cmp rfl (wtd_none rfl) rfl (Rd.x (x_lt rfl rfl)) (fun h11 => ?_) (fun h11 => ?_)
    · refine sr_nil ?_
      refine aw_keep (keep_cons (t := 1) rfl (keep_cons (t := 2) rfl (keep_cons (t := 6) rfl (keep_cons (t := 12) rfl (keep_cons (t := 13) rfl (keep_cons (t := 14) rfl (keep_cons (t := 103) rfl (keep_cons (t := 104) rfl (keep_cons (t := 105) rfl (keep_cons (t := 106) rfl keep_nil)))))))))) ?_
      refine aw_true rfl ?_
      refine aw_skip ?_
      show AW _ _ _ _ _ _ _
      refine aw_seq ?_
      refine aw_block ?_
      refine aw_seq_region ?_
      obtain ⟨x, hx⟩ := get_ex (show j < L.length by omega)
      obtain ⟨bx, ox, hax, hcx⟩ := (hs []).at_ _ _ hx
      refine sr_x rfl (wtd_none rfl) rfl (Rd.x (x_move rfl)) ?_
      refine sr_x rfl (wtd_none rfl) rfl (Rd.x (x_move rfl)) ?_
      refine sr_x rfl (wtd_none rfl) rfl (Rd.x (x_indexAddrN (j) Try.underlying34 sz55 rfl hax rfl (by omega) (by omega))) ?_
      refine sr_x rfl (wtd_none rfl) rfl (Rd.x (x_loadN ag55 sz55 rfl (Cells.mono hcx (Sub.nil _)) rfl)) ?_
      refine sr_new rfl (wtd_none rfl) rfl (x_alloc zr55 rfl) ?_
      intro r24_4 hr24_4 gr24_4
      refine sr_x0 rfl (wtd_none rfl) (x_store sz55 rfl rfl rfl rfl rfl (by repeat (first | exact Repl.here | apply Repl.there | apply Repl.app)) (by repeat (first | exact Spl.done | exact Spl.all rfl | apply Spl.put | apply Spl.skip))) ?_
      refine sr_nil ?_
      refine aw_keep (keep_cons (t := 1) rfl (keep_cons (t := 2) rfl (keep_cons (t := 6) rfl (keep_cons (t := 12) rfl (keep_cons (t := 13) rfl (keep_cons (t := 14) rfl (keep_cons (t := 15) rfl (keep_cons (t := 103) rfl (keep_cons (t := 104) rfl (keep_cons (t := 105) rfl (keep_cons (t := 106) rfl (keep_cons (t := 109) rfl (keep_cons (t := 110) rfl (keep_cons (t := 111) rfl (keep_cons (t := 112) rfl keep_nil))))))))))))))) ?_
      refine aw_seq ?_
      refine aw_seq_region ?_
      refine sr_x rfl (wtd_none rfl) rfl (Rd.x (x_loadN ag55 sz55 rfl (cells_ext (by repeat (first | exact List.mem_cons_self | apply List.mem_cons_of_mem | apply List.mem_append_right)) (by repeat (first | exact Ext.all _ | exact Ext.done | apply Ext.take | apply Ext.skip))) rfl)) ?_
      refine sr_d rfl (wtd_none rfl) rfl (opS_call rfl rfl rfl rfl cl60 (rright_s x _)) ?_
      rintro _ H9 ⟨rfl, rfl⟩
      generalize hd : spR x = d1
      cases d1
      · refine sr_x rfl (wtd_none rfl) rfl (Rd.x (x_not rfl)) ?_
        refine sr_x rfl (wtd_none rfl) rfl (Rd.x (x_move rfl)) ?_
        refine sr_skip rfl (wtd_no rfl rfl rfl rfl) rfl ?_
        refine sr_skip rfl (wtd_no rfl rfl rfl rfl) rfl ?_
        refine sr_skip rfl (wtd_no rfl rfl rfl rfl) rfl ?_
        refine sr_skip rfl (wtd_no rfl rfl rfl rfl) rfl ?_
        refine sr_x rfl (wtd_none rfl) rfl (Rd.x (x_pick_t rfl rfl rfl)) ?_
        refine sr_nil ?_
        refine aw_keep (keep_cons (t := 1) rfl (keep_cons (t := 2) rfl (keep_cons (t := 6) rfl (keep_cons (t := 12) rfl (keep_cons (t := 13) rfl (keep_cons (t := 14) rfl (keep_cons (t := 15) rfl (keep_cons (t := 103) rfl (keep_cons (t := 104) rfl (keep_cons (t := 105) rfl (keep_cons (t := 106) rfl (keep_cons (t := 109) rfl (keep_cons (t := 110) rfl (keep_cons (t := 111) rfl (keep_cons (t := 112) rfl (keep_cons (t := 113) rfl (keep_cons (t := 114) rfl (keep_cons (t := 115) rfl (keep_cons (t := 116) rfl (keep_cons (t := 117) rfl (keep_cons (t := 118) rfl (keep_cons (t := 119) rfl (keep_cons (t := 120) rfl (keep_cons (t := 121) rfl keep_nil)))))))))))))))))))))))) ?_
        refine aw_true rfl ?_
        refine aw_exit ?_
        show AW _ _ _ _ _ _ _
        refine aw_region ?_
        refine sr_x rfl (wtd_none rfl) rfl (Rd.x (x_move rfl)) ?_
        refine sr_x rfl (wtd_none rfl) rfl (Rd.x (x_add' rfl rfl (i64w (by omega) (by omega)))) ?_
        refine sr_x rfl (wtd_none rfl) rfl (Rd.x (x_assign rfl)) ?_
        refine sr_nil ?_
        show ∃ s', _ ∧ _ ∧ _ ∧ _
        first | exact ⟨⟨j + 1, n + 1⟩, ⟨by dsimp only; omega, (by dsimp only; rw [cutL_take hx, hcf, List.length_append, ← hn]; rfl)⟩, by dsimp only; omega, (by (repeat (first | exact keep_nil | refine keep_cons rfl ?_)); first | done | fail), Sub.autoD⟩ | exact ⟨⟨j + 1, n⟩, ⟨by dsimp only; omega, (by dsimp only; rw [cutL_take hx, show cutF from_ x = none from if_neg (fun h9 => by (obtain ⟨q1, q2⟩ := h9); first | omega | (rw [hd] at q1; cases q1)), List.length_append, ← hn]; rfl)⟩, by dsimp only; omega, (by (repeat (first | exact keep_nil | refine keep_cons rfl ?_)); first | done | fail), Sub.autoD⟩
      · refine sr_x rfl (wtd_none rfl) rfl (Rd.x (x_not rfl)) ?_
        refine sr_x rfl (wtd_none rfl) rfl (Rd.x (x_move rfl)) ?_
        refine sr_x rfl (wtd_yes rfl rfl rfl) rfl (Rd.x (x_fieldAddr fd55_1 rfl)) ?_
        refine sr_x rfl (wtd_yes rfl rfl rfl) rfl (Rd.x (x_load ag2 rfl (cells_ext (by repeat (first | exact List.mem_cons_self | apply List.mem_cons_of_mem | apply List.mem_append_right)) (by repeat (first | exact Ext.all _ | exact Ext.done | apply Ext.take | apply Ext.skip))))) ?_
        refine sr_x rfl (wtd_yes rfl rfl rfl) rfl (Rd.x (x_move rfl)) ?_
        refine sr_cmp rfl (wtd_yes rfl rfl rfl) rfl (Rd.x (x_le rfl rfl)) (fun h12 => ?_) (fun h12 => ?_)
        · refine sr_x rfl (wtd_none rfl) rfl (Rd.x (x_pick_f rfl rfl rfl)) ?_
          refine sr_nil ?_
          refine aw_keep (keep_cons (t := 1) rfl (keep_cons (t := 2) rfl (keep_cons (t := 6) rfl (keep_cons (t := 12) rfl (keep_cons (t := 13) rfl (keep_cons (t := 14) rfl (keep_cons (t := 15) rfl (keep_cons (t := 103) rfl (keep_cons (t := 104) rfl (keep_cons (t := 105) rfl (keep_cons (t := 106) rfl (keep_cons (t := 109) rfl (keep_cons (t := 110) rfl (keep_cons (t := 111) rfl (keep_cons (t := 112) rfl (keep_cons (t := 113) rfl (keep_cons (t := 114) rfl (keep_cons (t := 115) rfl (keep_cons (t := 116) rfl (keep_cons (t := 117) rfl (keep_cons (t := 118) rfl (keep_cons (t := 119) rfl (keep_cons (t := 120) rfl (keep_cons (t := 121) rfl keep_nil)))))))))))))))))))))))) ?_
          refine aw_true rfl ?_
          refine aw_exit ?_
          show AW _ _ _ _ _ _ _
          refine aw_region ?_
          refine sr_x rfl (wtd_none rfl) rfl (Rd.x (x_move rfl)) ?_
          refine sr_x rfl (wtd_none rfl) rfl (Rd.x (x_add' rfl rfl (i64w (by omega) (by omega)))) ?_
          refine sr_x rfl (wtd_none rfl) rfl (Rd.x (x_assign rfl)) ?_
          refine sr_nil ?_
          show ∃ s', _ ∧ _ ∧ _ ∧ _
          first | exact ⟨⟨j + 1, n + 1⟩, ⟨by dsimp only; omega, (by dsimp only; rw [cutL_take hx, hcf, List.length_append, ← hn]; rfl)⟩, by dsimp only; omega, (by (repeat (first | exact keep_nil | refine keep_cons rfl ?_)); first | done | fail), Sub.autoD⟩ | exact ⟨⟨j + 1, n⟩, ⟨by dsimp only; omega, (by dsimp only; rw [cutL_take hx, show cutF from_ x = none from if_neg (fun h9 => by (obtain ⟨q1, q2⟩ := h9); first | omega | (rw [hd] at q1; cases q1)), List.length_append, ← hn]; rfl)⟩, by dsimp only; omega, (by (repeat (first | exact keep_nil | refine keep_cons rfl ?_)); first | done | fail), Sub.autoD⟩
        · refine sr_x rfl (wtd_none rfl) rfl (Rd.x (x_pick_f rfl rfl rfl)) ?_
          refine sr_nil ?_
          refine aw_keep (keep_cons (t := 1) rfl (keep_cons (t := 2) rfl (keep_cons (t := 6) rfl (keep_cons (t := 12) rfl (keep_cons (t := 13) rfl (keep_cons (t := 14) rfl (keep_cons (t := 15) rfl (keep_cons (t := 103) rfl (keep_cons (t := 104) rfl (keep_cons (t := 105) rfl (keep_cons (t := 106) rfl (keep_cons (t := 109) rfl (keep_cons (t := 110) rfl (keep_cons (t := 111) rfl (keep_cons (t := 112) rfl (keep_cons (t := 113) rfl (keep_cons (t := 114) rfl (keep_cons (t := 115) rfl (keep_cons (t := 116) rfl (keep_cons (t := 117) rfl (keep_cons (t := 118) rfl (keep_cons (t := 119) rfl (keep_cons (t := 120) rfl (keep_cons (t := 121) rfl keep_nil)))))))))))))))))))))))) ?_
          refine aw_false rfl ?_
          refine aw_skip ?_
          show AW _ _ _ _ _ _ _
          refine aw_seq ?_
          refine aw_seq_region ?_
          refine sr_x rfl (wtd_none rfl) rfl (Rd.x (x_fieldAddr fd55_0 rfl)) ?_
          refine sr_x rfl (wtd_none rfl) rfl (Rd.x (x_load ag2 rfl (cells_ext (by repeat (first | exact List.mem_cons_self | apply List.mem_cons_of_mem | apply List.mem_append_right)) (by repeat (first | exact Ext.all _ | exact Ext.done | apply Ext.take | apply Ext.skip))))) ?_
          refine sr_x rfl (wtd_none rfl) rfl (Rd.x (x_move rfl)) ?_
          refine sr_cmp rfl (wtd_none rfl) rfl (Rd.x (x_lt rfl rfl)) (fun h13 => ?_) (fun h13 => ?_)
          · refine sr_nil ?_
            refine aw_keep (keep_cons (t := 1) rfl (keep_cons (t := 2) rfl (keep_cons (t := 6) rfl (keep_cons (t := 12) rfl (keep_cons (t := 13) rfl (keep_cons (t := 14) rfl (keep_cons (t := 15) rfl (keep_cons (t := 103) rfl (keep_cons (t := 104) rfl (keep_cons (t := 105) rfl (keep_cons (t := 106) rfl (keep_cons (t := 109) rfl (keep_cons (t := 110) rfl (keep_cons (t := 111) rfl (keep_cons (t := 112) rfl (keep_cons (t := 113) rfl (keep_cons (t := 114) rfl (keep_cons (t := 115) rfl (keep_cons (t := 116) rfl (keep_cons (t := 117) rfl (keep_cons (t := 118) rfl (keep_cons (t := 119) rfl (keep_cons (t := 120) rfl (keep_cons (t := 121) rfl (keep_cons (t := 122) rfl (keep_cons (t := 123) rfl (keep_cons (t := 124) rfl (keep_cons (t := 125) rfl keep_nil)))))))))))))))))))))))))))) ?_
            refine aw_true rfl ?_
            refine aw_region ?_
            refine sr_x rfl (wtd_none rfl) rfl (Rd.x (x_move rfl)) ?_
            refine sr_x rfl (wtd_none rfl) rfl (Rd.x (x_fieldAddr fd55_0 rfl)) ?_
            refine sr_x0 rfl (wtd_none rfl) (x_store sz2 rfl rfl rfl rfl rfl (by repeat (first | exact Repl.here | apply Repl.there | apply Repl.app)) (by repeat (first | exact Spl.done | exact Spl.all rfl | apply Spl.put | apply Spl.skip))) ?_
            refine sr_nil ?_
            show AW _ _ _ _ _ _ _
            refine aw_seq ?_
            refine aw_seq_dr ⟨_, 12, 149, [[], [], [1], [0, 1, 2], [0, 1, 2, 3], [0, 1, 2, 3, 4], [0, 1, 2, 3, 4], [0, 1, 2, 3, 4, 5, 6], [0, 1, 2, 3, 4, 5, 6, 7], [0, 1, 2, 3, 4], [0, 1, 2, 3, 4, 5, 6, 7, 8, 9], [0, 1, 2, 3, 4, 5, 6, 7, 8, 9, 10]], [.light, .light, .light, .light, .light, .light, .light, .light, .mem, .mem, .light, .light]⟩ (by kernel_rfl) rfl rfl mix ?_
            have hcf : cutF from_ x = some ⟨max x.from_ from_, x.to_, x.width⟩ := if_pos ⟨hd, by omega⟩
            have hcn := cutL_at hx hcf
            rw [← hC, ← hn] at hcn
            first | rw [Int.max_eq_right (by omega)] at hcn | rw [Int.max_eq_left (by omega)] at hcn
            have hnl := get_lt hcn
            obtain ⟨bz, oz, haz, hcz⟩ := hsq.at_ _ _ hcn
            refine dr_light rfl rfl (wtd_none rfl) (x_move rfl) ?_
            refine dr_light rfl rfl (wtd_none rfl) (x_move rfl) ?_
            refine dr_light rfl rfl (wtd_none rfl) (x_lenSlice Try.underlying34 rfl) ?_
            refine dr_cmp rfl rfl (wtd_none rfl) (x_ge rfl rfl) (fun h14 => absurd h14 (by first | omega | decide)) (fun h14 => ?_)
            refine dr_light rfl rfl (wtd_none rfl) (x_move rfl) ?_
            refine dr_light rfl rfl (wtd_yes rfl rfl rfl) (x_move rfl) ?_
            refine dr_light rfl rfl (wtd_yes rfl rfl rfl) (x_move rfl) ?_
            refine dr_light rfl rfl (wtd_yes rfl rfl rfl) (x_indexAddrN (n) Try.underlying34 sz55 rfl haz rfl (by omega) (by omega)) ?_
            refine dr_mem0 rfl rfl (wtd_yes rfl rfl rfl) (x_loadN ag55 sz55 rfl (Cells.mono hcz (Sub.takeE0 (by repeat (first | exact TakeE.here | apply TakeE.there | apply TakeE.app)))) rfl) ?_
            refine dr_mem0 rfl rfl (wtd_yes rfl rfl rfl) (x_loadN ag55 sz55 rfl (cells_ext (by repeat (first | exact List.mem_cons_self | apply List.mem_cons_of_mem | apply List.mem_append_right)) (by repeat (first | exact Ext.all _ | exact Ext.done | apply Ext.take | apply Ext.skip))) rfl) ?_
            refine dr_cmp rfl rfl (wtd_yes rfl rfl rfl) (x_neStruct Try.underlying55 ks55 rfl rfl rfl rfl rfl) (fun h15 => absurd h15 (by simp [eqC, sEq])) (fun h15 => ?_)
            refine dr_light rfl rfl (wtd_none rfl) (x_pick_f rfl rfl rfl) ?_
            refine dr_nil0 ?_
            refine aw_keep (keep_cons (t := 1) rfl (keep_cons (t := 2) rfl (keep_cons (t := 6) rfl (keep_cons (t := 12) rfl (keep_cons (t := 13) rfl (keep_cons (t := 14) rfl (keep_cons (t := 15) rfl (keep_cons (t := 103) rfl (keep_cons (t := 104) rfl (keep_cons (t := 105) rfl (keep_cons (t := 106) rfl (keep_cons (t := 109) rfl (keep_cons (t := 110) rfl (keep_cons (t := 111) rfl (keep_cons (t := 112) rfl (keep_cons (t := 113) rfl (keep_cons (t := 114) rfl (keep_cons (t := 115) rfl (keep_cons (t := 116) rfl (keep_cons (t := 117) rfl (keep_cons (t := 118) rfl (keep_cons (t := 119) rfl (keep_cons (t := 120) rfl (keep_cons (t := 121) rfl (keep_cons (t := 122) rfl (keep_cons (t := 123) rfl (keep_cons (t := 124) rfl (keep_cons (t := 125) rfl (keep_cons (t := 126) rfl (keep_cons (t := 127) rfl (keep_cons (t := 128) rfl (keep_cons (t := 129) rfl (keep_cons (t := 130) rfl (keep_cons (t := 131) rfl (keep_cons (t := 132) rfl (keep_cons (t := 133) rfl (keep_cons (t := 134) rfl (keep_cons (t := 135) rfl (keep_cons (t := 136) rfl (keep_cons (t := 137) rfl (keep_cons (t := 138) rfl (keep_cons (t := 139) rfl keep_nil)))))))))))))))))))))))))))))))))))))))))) ?_
            refine aw_false rfl ?_
            refine aw_skip ?_
            show AW _ _ _ _ _ _ _
            refine aw_region ?_
            refine sr_x rfl (wtd_none rfl) rfl (Rd.x (x_move rfl)) ?_
            refine sr_x rfl (wtd_none rfl) rfl (Rd.x (x_add' rfl rfl (i64w (by omega) (by omega)))) ?_
            refine sr_x rfl (wtd_none rfl) rfl (Rd.x (x_assign rfl)) ?_
            refine sr_nil ?_
            show AW _ _ _ _ _ _ _
            refine aw_region ?_
            refine sr_x rfl (wtd_none rfl) rfl (Rd.x (x_move rfl)) ?_
            refine sr_x rfl (wtd_none rfl) rfl (Rd.x (x_add' rfl rfl (i64w (by omega) (by omega)))) ?_
            refine sr_x rfl (wtd_none rfl) rfl (Rd.x (x_assign rfl)) ?_
            refine sr_nil ?_
            show ∃ s', _ ∧ _ ∧ _ ∧ _
            first | exact ⟨⟨j + 1, n + 1⟩, ⟨by dsimp only; omega, (by dsimp only; rw [cutL_take hx, hcf, List.length_append, ← hn]; rfl)⟩, by dsimp only; omega, (by (repeat (first | exact keep_nil | refine keep_cons rfl ?_)); first | done | fail), Sub.autoD⟩ | exact ⟨⟨j + 1, n⟩, ⟨by dsimp only; omega, (by dsimp only; rw [cutL_take hx, show cutF from_ x = none from if_neg (fun h9 => by (obtain ⟨q1, q2⟩ := h9); first | omega | (rw [hd] at q1; cases q1)), List.length_append, ← hn]; rfl)⟩, by dsimp only; omega, (by (repeat (first | exact keep_nil | refine keep_cons rfl ?_)); first | done | fail), Sub.autoD⟩
          · refine sr_nil ?_
            refine aw_keep (keep_cons (t := 1) rfl (keep_cons (t := 2) rfl (keep_cons (t := 6) rfl (keep_cons (t := 12) rfl (keep_cons (t := 13) rfl (keep_cons (t := 14) rfl (keep_cons (t := 15) rfl (keep_cons (t := 103) rfl (keep_cons (t := 104) rfl (keep_cons (t := 105) rfl (keep_cons (t := 106) rfl (keep_cons (t := 109) rfl (keep_cons (t := 110) rfl (keep_cons (t := 111) rfl (keep_cons (t := 112) rfl (keep_cons (t := 113) rfl (keep_cons (t := 114) rfl (keep_cons (t := 115) rfl (keep_cons (t := 116) rfl (keep_cons (t := 117) rfl (keep_cons (t := 118) rfl (keep_cons (t := 119) rfl (keep_cons (t := 120) rfl (keep_cons (t := 121) rfl (keep_cons (t := 122) rfl (keep_cons (t := 123) rfl (keep_cons (t := 124) rfl (keep_cons (t := 125) rfl keep_nil)))))))))))))))))))))))))))) ?_
            refine aw_false rfl ?_
            refine aw_skip ?_
            show AW _ _ _ _ _ _ _
            refine aw_seq ?_
            refine aw_seq_dr ⟨_, 12, 149, [[], [], [1], [0, 1, 2], [0, 1, 2, 3], [0, 1, 2, 3, 4], [0, 1, 2, 3, 4], [0, 1, 2, 3, 4, 5, 6], [0, 1, 2, 3, 4, 5, 6, 7], [0, 1, 2, 3, 4], [0, 1, 2, 3, 4, 5, 6, 7, 8, 9], [0, 1, 2, 3, 4, 5, 6, 7, 8, 9, 10]], [.light, .light, .light, .light, .light, .light, .light, .light, .mem, .mem, .light, .light]⟩ (by kernel_rfl) rfl rfl mix ?_
            have hcf : cutF from_ x = some ⟨max x.from_ from_, x.to_, x.width⟩ := if_pos ⟨hd, by omega⟩
            have hcn := cutL_at hx hcf
            rw [← hC, ← hn] at hcn
            first | rw [Int.max_eq_right (by omega)] at hcn | rw [Int.max_eq_left (by omega)] at hcn
            have hnl := get_lt hcn
            obtain ⟨bz, oz, haz, hcz⟩ := hsq.at_ _ _ hcn
            refine dr_light rfl rfl (wtd_none rfl) (x_move rfl) ?_
            refine dr_light rfl rfl (wtd_none rfl) (x_move rfl) ?_
            refine dr_light rfl rfl (wtd_none rfl) (x_lenSlice Try.underlying34 rfl) ?_
            refine dr_cmp rfl rfl (wtd_none rfl) (x_ge rfl rfl) (fun h16 => absurd h16 (by first | omega | decide)) (fun h16 => ?_)
            refine dr_light rfl rfl (wtd_none rfl) (x_move rfl) ?_
            refine dr_light rfl rfl (wtd_yes rfl rfl rfl) (x_move rfl) ?_
            refine dr_light rfl rfl (wtd_yes rfl rfl rfl) (x_move rfl) ?_
            refine dr_light rfl rfl (wtd_yes rfl rfl rfl) (x_indexAddrN (n) Try.underlying34 sz55 rfl haz rfl (by omega) (by omega)) ?_
            refine dr_mem0 rfl rfl (wtd_yes rfl rfl rfl) (x_loadN ag55 sz55 rfl (Cells.mono hcz (Sub.takeE0 (by repeat (first | exact TakeE.here | apply TakeE.there | apply TakeE.app)))) rfl) ?_
            refine dr_mem0 rfl rfl (wtd_yes rfl rfl rfl) (x_loadN ag55 sz55 rfl (cells_ext (by repeat (first | exact List.mem_cons_self | apply List.mem_cons_of_mem | apply List.mem_append_right)) (by repeat (first | exact Ext.all _ | exact Ext.done | apply Ext.take | apply Ext.skip))) rfl) ?_
            refine dr_cmp rfl rfl (wtd_yes rfl rfl rfl) (x_neStruct Try.underlying55 ks55 rfl rfl rfl rfl rfl) (fun h17 => absurd h17 (by simp [eqC, sEq])) (fun h17 => ?_)
            refine dr_light rfl rfl (wtd_none rfl) (x_pick_f rfl rfl rfl) ?_
            refine dr_nil0 ?_
            refine aw_keep (keep_cons (t := 1) rfl (keep_cons (t := 2) rfl (keep_cons (t := 6) rfl (keep_cons (t := 12) rfl (keep_cons (t := 13) rfl (keep_cons (t := 14) rfl (keep_cons (t := 15) rfl (keep_cons (t := 103) rfl (keep_cons (t := 104) rfl (keep_cons (t := 105) rfl (keep_cons (t := 106) rfl (keep_cons (t := 109) rfl (keep_cons (t := 110) rfl (keep_cons (t := 111) rfl (keep_cons (t := 112) rfl (keep_cons (t := 113) rfl (keep_cons (t := 114) rfl (keep_cons (t := 115) rfl (keep_cons (t := 116) rfl (keep_cons (t := 117) rfl (keep_cons (t := 118) rfl (keep_cons (t := 119) rfl (keep_cons (t := 120) rfl (keep_cons (t := 121) rfl (keep_cons (t := 122) rfl (keep_cons (t := 123) rfl (keep_cons (t := 124) rfl (keep_cons (t := 125) rfl (keep_cons (t := 128) rfl (keep_cons (t := 129) rfl (keep_cons (t := 130) rfl (keep_cons (t := 131) rfl (keep_cons (t := 132) rfl (keep_cons (t := 133) rfl (keep_cons (t := 134) rfl (keep_cons (t := 135) rfl (keep_cons (t := 136) rfl (keep_cons (t := 137) rfl (keep_cons (t := 138) rfl (keep_cons (t := 139) rfl keep_nil)))))))))))))))))))))))))))))))))))))))) ?_
            refine aw_false rfl ?_
            refine aw_skip ?_
            show AW _ _ _ _ _ _ _
            refine aw_region ?_
            refine sr_x rfl (wtd_none rfl) rfl (Rd.x (x_move rfl)) ?_
            refine sr_x rfl (wtd_none rfl) rfl (Rd.x (x_add' rfl rfl (i64w (by omega) (by omega)))) ?_
            refine sr_x rfl (wtd_none rfl) rfl (Rd.x (x_assign rfl)) ?_
            refine sr_nil ?_
            show AW _ _ _ _ _ _ _
            refine aw_region ?_
            refine sr_x rfl (wtd_none rfl) rfl (Rd.x (x_move rfl)) ?_
            refine sr_x rfl (wtd_none rfl) rfl (Rd.x (x_add' rfl rfl (i64w (by omega) (by omega)))) ?_
            refine sr_x rfl (wtd_none rfl) rfl (Rd.x (x_assign rfl)) ?_
            refine sr_nil ?_
            show ∃ s', _ ∧ _ ∧ _ ∧ _
            first | exact ⟨⟨j + 1, n + 1⟩, ⟨by dsimp only; omega, (by dsimp only; rw [cutL_take hx, hcf, List.length_append, ← hn]; rfl)⟩, by dsimp only; omega, (by (repeat (first | exact keep_nil | refine keep_cons rfl ?_)); first | done | fail), Sub.autoD⟩ | exact ⟨⟨j + 1, n⟩, ⟨by dsimp only; omega, (by dsimp only; rw [cutL_take hx, show cutF from_ x = none from if_neg (fun h9 => by (obtain ⟨q1, q2⟩ := h9); first | omega | (rw [hd] at q1; cases q1)), List.length_append, ← hn]; rfl)⟩, by dsimp only; omega, (by (repeat (first | exact keep_nil | refine keep_cons rfl ?_)); first | done | fail), Sub.autoD⟩
    · refine sr_nil ?_
      refine aw_keep (keep_cons (t := 1) rfl (keep_cons (t := 2) rfl (keep_cons (t := 6) rfl (keep_cons (t := 12) rfl (keep_cons (t := 13) rfl (keep_cons (t := 14) rfl (keep_cons (t := 103) rfl (keep_cons (t := 104) rfl (keep_cons (t := 105) rfl (keep_cons (t := 106) rfl keep_nil)))))))))) ?_
      refine aw_false rfl ?_
      refine aw_exit ?_
      show AW _ _ _ _ _ _ _
      refine aw_seq_region ?_
      rw [List.take_of_length_le (by omega), ← hC] at hn
      refine sr_x rfl (wtd_none rfl) rfl (Rd.x (x_move rfl)) ?_
      refine sr_x rfl (wtd_none rfl) rfl (Rd.x (x_move rfl)) ?_
      refine sr_x rfl (wtd_none rfl) rfl (Rd.x (x_lenSlice Try.underlying34 rfl)) ?_
      refine sr_cmp rfl (wtd_none rfl) rfl (Rd.x (x_eq rfl rfl)) (fun h18 => ?_) (fun h18 => absurd (by first | omega | decide) h18)
      refine sr_x rfl (wtd_none rfl) rfl (Rd.x (x_move rfl)) ?_
      refine sr_d rfl (wtd_yes rfl rfl rfl) rfl (opS_call rfl rfl rfl rfl cl58 (awake04_s _)) ?_
      rintro _ H9 ⟨rfl, rfl⟩
      refine sr_x rfl (wtd_none rfl) rfl (Rd.x (x_pick_t rfl rfl rfl)) ?_
      refine sr_x rfl (wtd_none rfl) rfl (Rd.x (x_assign rfl)) ?_
      refine sr_nil ?_
      refine aw_keep (keep_cons (t := 6) rfl keep_nil) ?_
      refine aw_ret ?_
      show ∃ v H2, ResV _ _ _ _ _ _ v ∧ Sub H2 _ ∧ _
      exact ⟨_, [], resV rfl (.cons rfl .nil), (Sub.nil _), rfl⟩
end
namespace SpanStepsRow
open Go.ChangeShapes Go.WideShapes Go.ChangeAt Go.RowKit
theorem own : ownKnob Try.prog.godebug = none := by kernel_rfl
theorem laid : laidOutB Try.prog = true := by kernel_rfl
set_option maxRecDepth 100000 in
theorem lifted (os : Os) (started : os.Started) (H : Type) (enc : TypeId × Value → H) :
    ReturnsInHanded {} Try.checked os 13 .any (Rows.spanStepsSpec.pre6 enc Try.prog Try.f13 Rows.spanStepsRow.domain false) (Rows.spanStepsSpec.post enc Try.prog Try.f13 false true false false) := by
  refine law_lifted (C := Try.checked) (tb := 4) own started (by kernel_rfl) Try.func13 (ChangeSpec.witness6 (enc := enc) (C := Try.checked) false ⟨#[], #[.int .i64 0, .int .i64 0, .slice none 0 0], []⟩ 8 (by kernel_rfl) (by kernel_rfl) (by kernel_rfl) (by kernel_rfl)) rfl Try.underlying4 rfl laid (by kernel_rfl) ?_ ?_
  · intro ds h
    match ds, h with
    | [a0, a1, a2], _ => rfl
  · intro W base args ds ps hval hA hlt hsz
    have hA' : DataW.TrodAll enc Try.prog W 0 (fun _ => true) true [3, 2, 34] args ds ps := hA
    clear hA
    obtain ⟨v0, vs0, d0, ds0, p0, q0, rfl, rfl, rfl, h0, r0⟩ := trodAll_cons hA'
    obtain ⟨v1, vs1, d1, ds1, p1, q1, rfl, rfl, rfl, h1, r1⟩ := trodAll_cons r0
    obtain ⟨v2, vs2, d2, ds2, p2, q2, rfl, rfl, rfl, h2, r2⟩ := trodAll_cons r1
    obtain ⟨rfl, rfl, rfl⟩ := trodAll_nil r2
    obtain ⟨all, rfl, hw0⟩ := opn_int Try.underlying3 (hval 0 3 v0 rfl rfl) h0
    obtain ⟨from_, rfl, hw1⟩ := opn_int Try.underlying2 (hval 1 2 v1 rfl rfl) h1
    obtain ⟨a, cap, l, rfl, hs0, _⟩ := opn_slice (en := PSpan.cells) (Ok := fun j => j.Wf) Try.underlying34 cells55 (by decide) (fun fuel cs x h => read_PSpan h) (hval 2 34 v2 rfl rfl) h2
    by_cases hall : -1048576 ≤ all ∧ all ≤ 1048576
    · exact spanSteps_ok a cap l hs0 all from_ hall
    · exact spanSteps_bad a cap l hs0 all from_ hall
theorem joined : joinedFacts Try.prog 13 Try.f13 Rows.spanStepsSpec Rows.spanStepsRow = true := by
  unfold joinedFacts
  rw [cutMay, cutLif, cutMk]
  kernel_rfl
theorem over : Rows.spanStepsRow.holds Try.pinned (OpenSpec.ofChange Rows.spanStepsSpec) :=
  OpenClaim.holds_of_wide 13 Try.f13 rfl rfl rfl rfl rfl rfl rfl ⟨rfl, rfl, rfl, rfl, rfl⟩ rfl rfl rfl rfl rfl (by kernel_rfl) Try.func13 joined
    (of_decide_eq_true (by kernel_rfl)) (by unfold Func.isWrapper; first | (rw [if_pos (by decide +kernel)]; kernel_rfl) | (rw [if_neg (by decide +kernel)]; exact ⟨rfl, rfl⟩))
    (fun os started H enc _ => lifted os started H enc)
theorem proved : Rows.SpanStepsSaid := over
#print axioms proved
end SpanStepsRow
end Go.Proofs.Ytjkojdjjooangaa
