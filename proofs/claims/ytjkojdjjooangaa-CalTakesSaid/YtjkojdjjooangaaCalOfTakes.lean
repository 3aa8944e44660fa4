/- Which calendars there are, what is taken away at a time, and for how long of a week nothing is, are what the law's own functions tell; no condition. -/
import Derived.Test.YtjkojdjjooangaaCalb
import Derived.Test.YtjkojdjjooangaaCut
import Derived.Test.YtjkojdjjooangaaRows
namespace Go.Proofs.Ytjkojdjjooangaa
open Go.Proofs.Ytjkojdjjooangaa.Sym
open Go.RowKit (Below)
set_option linter.unusedVariables false
set_option linter.unusedSimpArgs false
theorem cells106 : Try.prog.cellsOf 106 = 3 := by kernel_rfl
theorem cells2 : Try.prog.cellsOf 2 = 1 := by kernel_rfl
theorem cells3 : Try.prog.cellsOf 3 = 1 := by kernel_rfl
theorem cl66 : Callable Try.prog 66 := ⟨Try.f66, Try.func66, by kernel_rfl, by kernel_rfl⟩
theorem cl67 : Callable Try.prog 67 := ⟨Try.f67, Try.func67, by kernel_rfl, by kernel_rfl⟩
theorem cl68 : Callable Try.prog 68 := ⟨Try.f68, Try.func68, by kernel_rfl, by kernel_rfl⟩
theorem cl71 : Callable Try.prog 71 := ⟨Try.f71, Try.func71, by kernel_rfl, by kernel_rfl⟩
theorem cl72 : Callable Try.prog 72 := ⟨Try.f72, Try.func72, by kernel_rfl, by kernel_rfl⟩
theorem ks106 : kindsOf Try.prog 106 = some [.int, .int, .int] := by kernel_rfl
def Sym.PSpan.Wf (j : PSpan) : Prop := IntKind.min .i64 ≤ j.from_ ∧ j.from_ ≤ IntKind.max .i64 ∧ IntKind.min .i64 ≤ j.to_ ∧ j.to_ ≤ IntKind.max .i64 ∧ IntKind.min .i64 ≤ j.width ∧ j.width ≤ IntKind.max .i64
set_option maxRecDepth 100000 in
theorem read_PSpan {H : Type} {enc : TypeId × Value → H} {w : World} {base : Nat} {spare : Nat → Bool} {held : Bool} {fuel : Nat} {cs : List Value} {x : DataW H × List MemPlace} (h : DataW.trod enc Try.prog w base spare held fuel 106 cs = some x) : ∃ j : PSpan, cs = j.cells ∧ j.Wf := by
  obtain ⟨hlen, n, hf⟩ := read_struct Try.underlying106 h
  rw [cells106] at hlen
  obtain ⟨a0, e0, l0, u0⟩ := read_int Try.underlying3 cells3 (hf 0 _ rfl)
  obtain ⟨a1, e1, l1, u1⟩ := read_int Try.underlying3 cells3 (hf 1 _ rfl)
  obtain ⟨a2, e2, l2, u2⟩ := read_int Try.underlying3 cells3 (hf 2 _ rfl)
  refine ⟨⟨a0, a1, a2⟩, ?_, ⟨l0, u0, l1, u1, l2, u2⟩⟩
  apply List.ext_getElem?
  intro i
  match i with
  | 0 => exact e0
  | 1 => exact e1
  | 2 => exact e2
  | i + 3 => rw [List.getElem?_eq_none (by omega), List.getElem?_eq_none (by simp)]
set_option maxRecDepth 100000 in
theorem open_PSpan {H : Type} {enc : TypeId × Value → H} {w : World} {base b0 : Nat} {spare : Nat → Bool} {held : Bool} {v : Value} {d : DataW H} {p : List MemPlace} {r : Reach} (hv : Value.okWide Try.prog w r b0 106 v) (h : DataW.Trod enc Try.prog w base spare held 106 v d p) : ∃ j : PSpan, v = j.v ∧ j.Wf := by
  obtain ⟨cs, rfl, _⟩ := Go.WideShapes.okWide_struct Try.underlying106 hv
  obtain ⟨fuel, hf⟩ := h
  obtain ⟨j, h1, h2⟩ := read_PSpan hf
  refine ⟨j, ?_, h2⟩
  have : cs = j.cells.toArray := by apply Array.toList_inj.1; exact h1
  rw [this]

section
variable {W0 : World}
set_option maxRecDepth 100000 in
set_option maxHeartbeats 400000 in
theorem calTakes_full (a : Option Addr) (cap : Nat) (l : List PSpan) (hs0 : ∀ G, SlV W0 G 3 PSpan.cells a cap l) (t : Int) (h64 : 64 < (l.take 70).length) : AC Try.prog W0 14 [.slice a l.length cap, .int .i64 t] [] (fun v _ => v = .bool true) := by
  refine ac_of Try.func14 rfl rfl rfl ?_
  refine aw_seq_region ?_
  refine sr_x rfl (wtd_none rfl) rfl (Rd.x (x_assign rfl)) ?_
  refine sr_nil ?_
  refine aw_keep (keep_cons (t := 0) rfl (keep_cons (t := 1) rfl (keep_cons (t := 4) rfl keep_nil))) ?_
  refine aw_seq_region ?_
  refine sr_x rfl (wtd_none rfl) rfl (Rd.x (x_move rfl)) ?_
  refine sr_d rfl (wtd_none rfl) rfl (opS_call rfl rfl rfl rfl cl66 (lmade_full a cap l _ (hs0 []) h64)) ?_
  rintro _ H9 ⟨rfl, rfl⟩
  obtain ⟨L, hLL⟩ : ∃ L, L = l.take 70 := ⟨_, rfl⟩
  rw [← hLL] at h64 ⊢
  have hs : ∀ G, SlV W0 G 3 PSpan.cells a cap L := fun G => hLL ▸ (hs0 G).take 70
  have hle := (hs []).le
  have hcb := (hs []).capb
  refine sr_x rfl (wtd_none rfl) rfl (Rd.x (x_move rfl)) ?_
  refine sr_x rfl (wtd_none rfl) rfl (Rd.x (x_extract rfl rfl)) ?_
  refine sr_x rfl (wtd_none rfl) rfl (Rd.x (x_extract rfl rfl)) ?_
  refine sr_x rfl (wtd_none rfl) rfl (Rd.x (x_extract rfl rfl)) ?_
  refine sr_x rfl (wtd_none rfl) rfl (Rd.x (x_assign rfl)) ?_
  refine sr_x rfl (wtd_none rfl) rfl (Rd.x (x_assign rfl)) ?_
  refine sr_x rfl (wtd_none rfl) rfl (Rd.x (x_assign rfl)) ?_
  refine sr_nil ?_
  refine aw_keep (keep_cons (t := 0) rfl (keep_cons (t := 1) rfl (keep_cons (t := 4) rfl (keep_cons (t := 5) rfl (keep_cons (t := 6) rfl keep_nil))))) ?_
  refine aw_seq ?_
  refine aw_seq_region ?_
  refine sr_x rfl (wtd_none rfl) rfl (Rd.x (x_move rfl)) ?_
  refine sr_d rfl (wtd_none rfl) rfl (opS_call rfl rfl rfl rfl cl67 (lwhy_full a cap L _ (hs _) h64)) ?_
  rintro _ H9 ⟨rfl, rfl⟩
  refine sr_cmp rfl (wtd_none rfl) rfl (Rd.x (x_ne rfl rfl)) (fun h1 => ?_) (fun h1 => absurd (by first | omega | decide) h1)
  refine sr_nil ?_
  refine aw_keep (keep_cons (t := 0) rfl (keep_cons (t := 1) rfl (keep_cons (t := 4) rfl (keep_cons (t := 5) rfl (keep_cons (t := 6) rfl (keep_cons (t := 21) rfl keep_nil)))))) ?_
  refine aw_true rfl ?_
  refine aw_seq_region ?_
  refine sr_x rfl (wtd_none rfl) rfl (Rd.x (x_move rfl)) ?_
  refine sr_x rfl (wtd_none rfl) rfl (Rd.x (x_eqnil Try.underlying100 rfl rfl)) ?_
  refine sr_x rfl (wtd_none rfl) rfl (Rd.x (x_move rfl)) ?_
  refine sr_x rfl (wtd_yes rfl rfl rfl) rfl (Rd.x (x_move rfl)) ?_
  refine sr_x rfl (wtd_yes rfl rfl rfl) rfl (Rd.x (x_move rfl)) ?_
  refine sr_d rfl (wtd_yes rfl rfl rfl) rfl (opS_call rfl rfl rfl rfl cl67 (lwhy_full a cap L _ (hs _) h64)) ?_
  rintro _ H9 ⟨rfl, rfl⟩
  refine sr_cmp rfl (wtd_yes rfl rfl rfl) rfl (Rd.x (x_eq rfl rfl)) (fun h2 => ?_) (fun h2 => absurd (by first | omega | decide) h2)
  refine sr_x rfl (wtd_none rfl) rfl (Rd.x (x_pick_t rfl rfl rfl)) ?_
  refine sr_x rfl (wtd_none rfl) rfl (Rd.x (x_move rfl)) ?_
  refine sr_d rfl (wtd_yes rfl rfl rfl) rfl (opS_call rfl rfl rfl rfl cl68 (awake45_s _)) ?_
  rintro _ H9 ⟨rfl, rfl⟩
  refine sr_x rfl (wtd_none rfl) rfl (Rd.x (x_pick_t rfl rfl rfl)) ?_
  refine sr_x rfl (wtd_none rfl) rfl (Rd.x (x_assign rfl)) ?_
  refine sr_nil ?_
  refine aw_keep (keep_cons (t := 0) rfl (keep_cons (t := 1) rfl (keep_cons (t := 4) rfl (keep_cons (t := 5) rfl (keep_cons (t := 6) rfl keep_nil))))) ?_
  refine aw_ret ?_
  show ∃ v H2, ResV _ _ _ _ _ _ v ∧ Sub H2 _ ∧ _
  exact ⟨_, [], resV rfl (.cons rfl .nil), (Sub.nil _), rfl⟩
set_option maxRecDepth 100000 in
set_option maxHeartbeats 400000 in
theorem calTakes_rng (a : Option Addr) (cap : Nat) (l : List PSpan) (hs0 : ∀ G, SlV W0 G 3 PSpan.cells a cap l) (t : Int) (h64 : (l.take 70).length ≤ 64) (hb : ∃ x ∈ (l.take 70), winR x = false) : AC Try.prog W0 14 [.slice a l.length cap, .int .i64 t] [] (fun v _ => v = .bool true) := by
  refine ac_of Try.func14 rfl rfl rfl ?_
  refine aw_seq_region ?_
  refine sr_x rfl (wtd_none rfl) rfl (Rd.x (x_assign rfl)) ?_
  refine sr_nil ?_
  refine aw_keep (keep_cons (t := 0) rfl (keep_cons (t := 1) rfl (keep_cons (t := 4) rfl keep_nil))) ?_
  refine aw_seq_region ?_
  refine sr_x rfl (wtd_none rfl) rfl (Rd.x (x_move rfl)) ?_
  refine sr_d rfl (wtd_none rfl) rfl (opS_call rfl rfl rfl rfl cl66 (lmade_rng a cap l _ (hs0 []) h64 hb)) ?_
  rintro _ H9 ⟨rfl, rfl⟩
  obtain ⟨L, hLL⟩ : ∃ L, L = l.take 70 := ⟨_, rfl⟩
  rw [← hLL] at h64 hb ⊢
  have hs : ∀ G, SlV W0 G 3 PSpan.cells a cap L := fun G => hLL ▸ (hs0 G).take 70
  have hle := (hs []).le
  have hcb := (hs []).capb
  refine sr_x rfl (wtd_none rfl) rfl (Rd.x (x_move rfl)) ?_
  refine sr_x rfl (wtd_none rfl) rfl (Rd.x (x_extract rfl rfl)) ?_
  refine sr_x rfl (wtd_none rfl) rfl (Rd.x (x_extract rfl rfl)) ?_
  refine sr_x rfl (wtd_none rfl) rfl (Rd.x (x_extract rfl rfl)) ?_
  refine sr_x rfl (wtd_none rfl) rfl (Rd.x (x_assign rfl)) ?_
  refine sr_x rfl (wtd_none rfl) rfl (Rd.x (x_assign rfl)) ?_
  refine sr_x rfl (wtd_none rfl) rfl (Rd.x (x_assign rfl)) ?_
  refine sr_nil ?_
  refine aw_keep (keep_cons (t := 0) rfl (keep_cons (t := 1) rfl (keep_cons (t := 4) rfl (keep_cons (t := 5) rfl (keep_cons (t := 6) rfl keep_nil))))) ?_
  refine aw_seq ?_
  refine aw_seq_region ?_
  refine sr_x rfl (wtd_none rfl) rfl (Rd.x (x_move rfl)) ?_
  refine sr_d rfl (wtd_none rfl) rfl (opS_call rfl rfl rfl rfl cl67 (lwhy_rng a cap L _ (hs _) h64 hb)) ?_
  rintro _ H9 ⟨rfl, rfl⟩
  refine sr_cmp rfl (wtd_none rfl) rfl (Rd.x (x_ne rfl rfl)) (fun h1 => ?_) (fun h1 => absurd (by first | omega | decide) h1)
  refine sr_nil ?_
  refine aw_keep (keep_cons (t := 0) rfl (keep_cons (t := 1) rfl (keep_cons (t := 4) rfl (keep_cons (t := 5) rfl (keep_cons (t := 6) rfl (keep_cons (t := 21) rfl keep_nil)))))) ?_
  refine aw_true rfl ?_
  refine aw_seq_region ?_
  refine sr_x rfl (wtd_none rfl) rfl (Rd.x (x_move rfl)) ?_
  refine sr_x rfl (wtd_none rfl) rfl (Rd.x (x_eqnil Try.underlying100 rfl rfl)) ?_
  refine sr_x rfl (wtd_none rfl) rfl (Rd.x (x_move rfl)) ?_
  refine sr_x rfl (wtd_yes rfl rfl rfl) rfl (Rd.x (x_move rfl)) ?_
  refine sr_x rfl (wtd_yes rfl rfl rfl) rfl (Rd.x (x_move rfl)) ?_
  refine sr_d rfl (wtd_yes rfl rfl rfl) rfl (opS_call rfl rfl rfl rfl cl67 (lwhy_rng a cap L _ (hs _) h64 hb)) ?_
  rintro _ H9 ⟨rfl, rfl⟩
  refine sr_cmp rfl (wtd_yes rfl rfl rfl) rfl (Rd.x (x_eq rfl rfl)) (fun h2 => ?_) (fun h2 => absurd (by first | omega | decide) h2)
  refine sr_x rfl (wtd_none rfl) rfl (Rd.x (x_pick_t rfl rfl rfl)) ?_
  refine sr_x rfl (wtd_none rfl) rfl (Rd.x (x_move rfl)) ?_
  refine sr_d rfl (wtd_yes rfl rfl rfl) rfl (opS_call rfl rfl rfl rfl cl68 (awake45_s _)) ?_
  rintro _ H9 ⟨rfl, rfl⟩
  refine sr_x rfl (wtd_none rfl) rfl (Rd.x (x_pick_t rfl rfl rfl)) ?_
  refine sr_x rfl (wtd_none rfl) rfl (Rd.x (x_assign rfl)) ?_
  refine sr_nil ?_
  refine aw_keep (keep_cons (t := 0) rfl (keep_cons (t := 1) rfl (keep_cons (t := 4) rfl (keep_cons (t := 5) rfl (keep_cons (t := 6) rfl keep_nil))))) ?_
  refine aw_ret ?_
  show ∃ v H2, ResV _ _ _ _ _ _ v ∧ Sub H2 _ ∧ _
  exact ⟨_, [], resV rfl (.cons rfl .nil), (Sub.nil _), rfl⟩
set_option maxRecDepth 100000 in
set_option maxHeartbeats 8000000 in
theorem calTakes_ok (a : Option Addr) (cap : Nat) (l : List PSpan) (hs0 : ∀ G, SlV W0 G 3 PSpan.cells a cap l) (t : Int) (h64 : (l.take 70).length ≤ 64) (hL : ∀ x ∈ (l.take 70), winR x = true) : AC Try.prog W0 14 [.slice a l.length cap, .int .i64 t] [] (fun v _ => v = .bool true) := by
  refine ac_of Try.func14 rfl rfl rfl ?_
  refine aw_seq_region ?_
  refine sr_x rfl (wtd_none rfl) rfl (Rd.x (x_assign rfl)) ?_
  refine sr_nil ?_
  refine aw_keep (keep_cons (t := 0) rfl (keep_cons (t := 1) rfl (keep_cons (t := 4) rfl keep_nil))) ?_
  refine aw_seq_region ?_
  refine sr_x rfl (wtd_none rfl) rfl (Rd.x (x_move rfl)) ?_
  refine sr_d rfl (wtd_none rfl) rfl (opS_call rfl rfl rfl rfl cl66 (lmade_ok a cap l _ (hs0 []) h64 hL)) ?_
  rintro _ _ ⟨p, ap, cp, EP, rfl, VP, rfl⟩
  obtain ⟨L, hLL⟩ : ∃ L, L = l.take 70 := ⟨_, rfl⟩
  rw [← hLL] at h64 hL VP ⊢
  have hs : ∀ G, SlV W0 G 3 PSpan.cells a cap L := fun G => hLL ▸ (hs0 G).take 70
  have hle := (hs []).le
  have hcb := (hs []).capb
  have hWK := winK_cal (W0 := W0) (p := p) VP h64
  refine sr_x rfl (wtd_none rfl) rfl (Rd.x (x_move rfl)) ?_
  refine sr_x rfl (wtd_none rfl) rfl (Rd.x (x_extract rfl rfl)) ?_
  refine sr_x rfl (wtd_none rfl) rfl (Rd.x (x_extract rfl rfl)) ?_
  refine sr_x rfl (wtd_none rfl) rfl (Rd.x (x_extract rfl rfl)) ?_
  refine sr_x rfl (wtd_none rfl) rfl (Rd.x (x_assign rfl)) ?_
  refine sr_x rfl (wtd_none rfl) rfl (Rd.x (x_assign rfl)) ?_
  refine sr_x rfl (wtd_none rfl) rfl (Rd.x (x_assign rfl)) ?_
  refine sr_nil ?_
  refine aw_keep (keep_cons (t := 0) rfl (keep_cons (t := 1) rfl (keep_cons (t := 4) rfl (keep_cons (t := 5) rfl (keep_cons (t := 6) rfl keep_nil))))) ?_
  refine aw_seq ?_
  refine aw_seq_region ?_
  refine sr_x rfl (wtd_none rfl) rfl (Rd.x (x_move rfl)) ?_
  refine sr_d rfl (wtd_none rfl) rfl (opS_call rfl rfl rfl rfl cl67 (lwhy_ok a cap L _ (hs _) h64 hL)) ?_
  rintro _ H9 ⟨rfl, rfl⟩
  refine sr_cmp rfl (wtd_none rfl) rfl (Rd.x (x_ne rfl rfl)) (fun h1 => absurd h1 (by first | omega | decide)) (fun h1 => ?_)
  refine sr_nil ?_
  refine aw_keep (keep_cons (t := 0) rfl (keep_cons (t := 1) rfl (keep_cons (t := 4) rfl (keep_cons (t := 5) rfl (keep_cons (t := 6) rfl (keep_cons (t := 21) rfl keep_nil)))))) ?_
  refine aw_false rfl ?_
  refine aw_skip ?_
  show AW _ _ _ _ _ _ _
  refine aw_seq_region ?_
  refine sr_x rfl (wtd_none rfl) rfl (Rd.x (x_move rfl)) ?_
  refine sr_d rfl (wtd_none rfl) rfl (opS_call rfl rfl rfl rfl cl69 (hWK _ (Sub.take (by repeat (first | exact Take.here | apply Take.there | apply Take.app)) (Sub.takeE0 (by repeat (first | exact TakeE.here | apply TakeE.there | apply TakeE.app)))))) ?_
  rintro _ _ ⟨a3, c3, E3, rfl, V3, rfl⟩
  have hs3 := V3.slv' (W0 := W0) (fun _ => rfl) rfl (Sub.refl _)
  have hle3 := hs3.le
  have hcb3 := hs3.capb
  refine sr_x rfl (wtd_none rfl) rfl (Rd.x (x_assign rfl)) ?_
  refine sr_nil ?_
  refine aw_keep (keep_cons (t := 0) rfl (keep_cons (t := 1) rfl (keep_cons (t := 4) rfl (keep_cons (t := 5) rfl (keep_cons (t := 6) rfl (keep_cons (t := 7) rfl keep_nil)))))) ?_
  refine aw_seq ?_
  refine aw_seq_region ?_
  refine sr_x rfl (wtd_none rfl) rfl (Rd.x (x_move rfl)) ?_
  refine sr_x rfl (wtd_none rfl) rfl (Rd.x (x_eqnil Try.underlying100 rfl rfl)) ?_
  refine sr_x rfl (wtd_none rfl) rfl (Rd.x (x_move rfl)) ?_
  refine sr_x rfl (wtd_yes rfl rfl rfl) rfl (Rd.x (x_move rfl)) ?_
  refine sr_cmp rfl (wtd_yes rfl rfl rfl) rfl (Rd.x (x_ne rfl rfl)) (fun h2 => absurd h2 (by first | omega | decide)) (fun h2 => ?_)
  refine sr_x rfl (wtd_none rfl) rfl (Rd.x (x_pick_f rfl rfl rfl)) ?_
  refine sr_x rfl (wtd_none rfl) rfl (Rd.x (x_move rfl)) ?_
  refine sr_x rfl (wtd_yes rfl rfl rfl) rfl (Rd.x (x_move rfl)) ?_
  refine sr_x rfl (wtd_yes rfl rfl rfl) rfl (Rd.x (x_lenSlice Try.underlying99 rfl)) ?_
  refine sr_x rfl (wtd_yes rfl rfl rfl) rfl (Rd.x (x_move rfl)) ?_
  refine sr_x rfl (wtd_yes rfl rfl rfl) rfl (Rd.x (x_lenSlice Try.underlying99 rfl)) ?_
  refine sr_cmp rfl (wtd_yes rfl rfl rfl) rfl (Rd.x (x_ne rfl rfl)) (fun h3 => absurd h3 (by first | omega | decide)) (fun h3 => ?_)
  refine sr_x rfl (wtd_none rfl) rfl (Rd.x (x_pick_f rfl rfl rfl)) ?_
  refine sr_nil ?_
  refine aw_keep (keep_cons (t := 0) rfl (keep_cons (t := 1) rfl (keep_cons (t := 4) rfl (keep_cons (t := 5) rfl (keep_cons (t := 7) rfl (keep_cons (t := 47) rfl keep_nil)))))) ?_
  refine aw_false rfl ?_
  refine aw_skip ?_
  show AW _ _ _ _ _ _ _
  refine aw_seq ?_
  refine aw_seq_region ?_
  refine sr_x rfl (wtd_none rfl) rfl (Rd.x (x_assign rfl)) ?_
  refine sr_nil ?_
  refine aw_keep (keep_cons (t := 0) rfl (keep_cons (t := 1) rfl (keep_cons (t := 4) rfl (keep_cons (t := 5) rfl (keep_cons (t := 7) rfl (keep_cons (t := 8) rfl keep_nil)))))) ?_
  refine aw_block ?_
  refine aw_loop (ι := Nat) (fun k => k ≤ L.length) (fun k => [(0, .slice a L.length cap), (1, .int .i64 t), (4, .bool false), (5, .pointer (some ⟨p, 0, none⟩)), (7, .slice a3 L.length c3), (8, .int .i64 k)]) (fun _ => E3 ++ ((p, .cells [.slice ap L.length cp].toArray 154 (0, 0)) :: (EP ++ []))) (fun k => L.length - k) 0 (Nat.zero_le _) (by (repeat (first | exact keep_nil | refine keep_cons rfl ?_)); first | done | fail) Sub.autoP ?_
  intro k hk
  refine aw_seq ?_
  refine aw_seq_region ?_
  refine sr_x rfl (wtd_none rfl) rfl (Rd.x (x_move rfl)) ?_
  refine sr_x rfl (wtd_none rfl) rfl (Rd.x (x_move rfl)) ?_
  refine sr_x rfl (wtd_none rfl) rfl (Rd.x (x_lenSlice Try.underlying99 rfl)) ?_
  refine sr_cmp rfl (wtd_none rfl) rfl (Rd.x (x_lt rfl rfl)) (fun h4 => ?_) (fun h4 => ?_)
  · refine sr_nil ?_
    refine aw_keep (keep_cons (t := 0) rfl (keep_cons (t := 1) rfl (keep_cons (t := 4) rfl (keep_cons (t := 5) rfl (keep_cons (t := 7) rfl (keep_cons (t := 8) rfl (keep_cons (t := 48) rfl (keep_cons (t := 49) rfl (keep_cons (t := 50) rfl (keep_cons (t := 51) rfl keep_nil)))))))))) ?_
    refine aw_true rfl ?_
    refine aw_skip ?_
    show AW _ _ _ _ _ _ _
    refine aw_seq ?_
    refine aw_block ?_
    refine aw_seq_dr ⟨_, 17, 110, [[], [], [0, 1], [0, 1, 2], [], [], [4, 5], [4, 5, 6], [0, 1, 2, 3, 4, 5, 6, 7], [0, 1, 2, 3, 4, 5, 6, 7, 8], [0, 1, 2, 3, 4, 5, 6, 7, 8, 9], [0, 1, 2, 3, 4, 5, 6, 7, 8, 9], [0, 1, 2, 3, 4, 5, 6, 7, 8, 9, 10, 11], [0, 1, 2, 3, 4, 5, 6, 7, 8, 9, 10, 11, 12], [0, 1, 2, 3, 4, 5, 6, 7, 8, 9, 10, 11, 12, 13], [0, 1, 2, 3, 4, 5, 6, 7, 8, 9, 10, 11, 12, 13, 14], [0, 1, 2, 3, 4, 5, 6, 7, 8, 9, 10, 11, 12, 13, 14, 15]], [.light, .light, .light, .mem, .light, .light, .light, .mem, .light, .light, .light, .light, .light, .mem, .call, .light, .light]⟩ (by kernel_rfl) rfl rfl mix ?_
    obtain ⟨x, hx⟩ := get_ex (show k < L.length by omega)
    obtain ⟨bx, ox, hax, hcx⟩ := (hs []).at_ _ _ hx
    obtain ⟨by_, oy, hay, hcy⟩ := hs3.at_ _ _ hx
    refine dr_light rfl rfl (wtd_none rfl) (x_move rfl) ?_
    refine dr_light rfl rfl (wtd_none rfl) (x_move rfl) ?_
    refine dr_light rfl rfl (wtd_none rfl) (x_indexAddrN (k) Try.underlying99 sz106 rfl hay rfl (by omega) (by omega)) ?_
    refine dr_mem0 rfl rfl (wtd_none rfl) (x_loadN ag106 sz106 rfl (Cells.mono hcy (Sub.takeE0 (by repeat (first | exact TakeE.here | apply TakeE.there | apply TakeE.app)))) rfl) ?_
    refine dr_light rfl rfl (wtd_none rfl) (x_move rfl) ?_
    refine dr_light rfl rfl (wtd_none rfl) (x_move rfl) ?_
    refine dr_light rfl rfl (wtd_none rfl) (x_indexAddrN (k) Try.underlying99 sz106 rfl hax rfl (by omega) (by omega)) ?_
    refine dr_mem0 rfl rfl (wtd_none rfl) (x_loadN ag106 sz106 rfl (Cells.mono hcx (Sub.nil _)) rfl) ?_
    refine dr_cmp rfl rfl (wtd_none rfl) (x_neStruct Try.underlying106 ks106 rfl rfl rfl rfl rfl) (fun h5 => absurd h5 (by simp [eqC, sEq])) (fun h5 => ?_)
    refine dr_light rfl rfl (wtd_none rfl) (x_move rfl) ?_
    refine dr_light rfl rfl (wtd_yes rfl rfl rfl) (x_move rfl) ?_
    refine dr_light rfl rfl (wtd_yes rfl rfl rfl) (x_move rfl) ?_
    refine dr_light rfl rfl (wtd_yes rfl rfl rfl) (x_indexAddrN (k) Try.underlying99 sz106 rfl hay rfl (by omega) (by omega)) ?_
    refine dr_mem0 rfl rfl (wtd_yes rfl rfl rfl) (x_loadN ag106 sz106 rfl (Cells.mono hcy (Sub.takeE0 (by repeat (first | exact TakeE.here | apply TakeE.there | apply TakeE.app)))) rfl) ?_
    refine dr_callq0 rfl rfl (wtd_yes rfl rfl rfl) (opS_F rfl rfl rfl rfl cl70 ((cright_s x _))) (⟨_, rfl⟩) ?_
    rintro _ rfl
    rw [hL x (List.mem_of_getElem? hx)]
    refine dr_light rfl rfl (wtd_yes rfl rfl rfl) (x_not rfl) ?_
    refine dr_light rfl rfl (wtd_none rfl) (x_pick_f rfl rfl rfl) ?_
    refine dr_nil0 ?_
    refine aw_keep (keep_cons (t := 0) rfl (keep_cons (t := 1) rfl (keep_cons (t := 4) rfl (keep_cons (t := 5) rfl (keep_cons (t := 7) rfl (keep_cons (t := 8) rfl (keep_cons (t := 48) rfl (keep_cons (t := 49) rfl (keep_cons (t := 50) rfl (keep_cons (t := 51) rfl (keep_cons (t := 54) rfl (keep_cons (t := 55) rfl (keep_cons (t := 56) rfl (keep_cons (t := 57) rfl (keep_cons (t := 58) rfl (keep_cons (t := 59) rfl (keep_cons (t := 60) rfl (keep_cons (t := 61) rfl (keep_cons (t := 62) rfl (keep_cons (t := 63) rfl (keep_cons (t := 64) rfl (keep_cons (t := 65) rfl (keep_cons (t := 66) rfl (keep_cons (t := 67) rfl (keep_cons (t := 68) rfl (keep_cons (t := 69) rfl (keep_cons (t := 70) rfl keep_nil))))))))))))))))))))))))))) ?_
    refine aw_false rfl ?_
    refine aw_skip ?_
    show AW _ _ _ _ _ _ _
    refine aw_region ?_
    refine sr_x rfl (wtd_none rfl) rfl (Rd.x (x_move rfl)) ?_
    refine sr_x rfl (wtd_none rfl) rfl (Rd.x (x_add' rfl rfl (i64w (by omega) (by omega)))) ?_
    refine sr_x rfl (wtd_none rfl) rfl (Rd.x (x_assign rfl)) ?_
    refine sr_nil ?_
    show ∃ s', _ ∧ _ ∧ _ ∧ _
    exact ⟨k + 1, by omega, by omega, (by (repeat (first | exact keep_nil | refine keep_cons rfl ?_)); first | done | fail), Sub.autoP⟩
  · refine sr_nil ?_
    refine aw_keep (keep_cons (t := 0) rfl (keep_cons (t := 1) rfl (keep_cons (t := 4) rfl (keep_cons (t := 5) rfl (keep_cons (t := 7) rfl (keep_cons (t := 8) rfl (keep_cons (t := 48) rfl (keep_cons (t := 49) rfl (keep_cons (t := 50) rfl (keep_cons (t := 51) rfl keep_nil)))))))))) ?_
    refine aw_false rfl ?_
    refine aw_exit ?_
    show AW _ _ _ _ _ _ _
    refine aw_seq_region ?_
    refine sr_x rfl (wtd_none rfl) rfl (Rd.x (x_assign rfl)) ?_
    refine sr_nil ?_
    refine aw_keep (keep_cons (t := 0) rfl (keep_cons (t := 1) rfl (keep_cons (t := 4) rfl (keep_cons (t := 5) rfl (keep_cons (t := 9) rfl keep_nil))))) ?_
    refine aw_seq_region ?_
    refine sr_x rfl (wtd_none rfl) rfl (Rd.x (x_assign rfl)) ?_
    refine sr_nil ?_
    refine aw_keep (keep_cons (t := 0) rfl (keep_cons (t := 1) rfl (keep_cons (t := 4) rfl (keep_cons (t := 5) rfl (keep_cons (t := 9) rfl (keep_cons (t := 10) rfl keep_nil)))))) ?_
    refine aw_seq ?_
    refine aw_seq_region ?_
    refine sr_x rfl (wtd_none rfl) rfl (Rd.x (x_assign rfl)) ?_
    refine sr_nil ?_
    refine aw_keep (keep_cons (t := 0) rfl (keep_cons (t := 1) rfl (keep_cons (t := 4) rfl (keep_cons (t := 5) rfl (keep_cons (t := 9) rfl (keep_cons (t := 10) rfl (keep_cons (t := 11) rfl keep_nil))))))) ?_
    refine aw_block ?_
    obtain ⟨X, hX⟩ := tms_ex (edL L)
    have hX1 := hX.len
    have hX2 := edL_len L
    refine aw_keep (keep_cons (t := 0) rfl (keep_cons (t := 1) rfl (keep_cons (t := 4) rfl (keep_cons (t := 5) rfl (keep_cons (t := 9) rfl (keep_cons (t := 10) (v := .int .i64 (xat X 0)) (congrArg (fun x => some (Value.int .i64 x)) (pw_head hL hX).symm) (keep_cons (t := 11) rfl keep_nil))))))) ?_
    refine aw_loop (ι := Nat) (fun k => k ≤ X.length) (fun k => [(0, .slice a L.length cap), (1, .int .i64 t), (4, .bool false), (5, .pointer (some ⟨p, 0, none⟩)), (9, .int .i64 (opP L X k)), (10, .int .i64 (xat X k)), (11, .int .i64 k)]) (fun _ => E3 ++ ((p, .cells [.slice ap L.length cp].toArray 154 (0, 0)) :: (EP ++ []))) (fun k => X.length - k) 0 (Nat.zero_le _) (by (repeat (first | exact keep_nil | refine keep_cons rfl ?_)); first | done | fail) Sub.autoP ?_
    intro k hk
    refine aw_seq ?_
    refine aw_seq_region ?_
    refine sr_x rfl (wtd_none rfl) rfl (Rd.x (x_move rfl)) ?_
    refine sr_cmp rfl (wtd_none rfl) rfl (Rd.x (x_lt rfl rfl)) (fun h6 => ?_) (fun h6 => absurd (by first | omega | decide) h6)
    refine sr_x rfl (wtd_none rfl) rfl (Rd.x (x_move rfl)) ?_
    refine sr_x rfl (wtd_yes rfl rfl rfl) rfl (Rd.x (x_move rfl)) ?_
    refine sr_cmp rfl (wtd_yes rfl rfl rfl) rfl (Rd.x (x_lt rfl rfl)) (fun h7 => ?_) (fun h7 => ?_)
    · refine sr_x rfl (wtd_none rfl) rfl (Rd.x (x_pick_t rfl rfl rfl)) ?_
      refine sr_nil ?_
      refine aw_keep (keep_cons (t := 0) rfl (keep_cons (t := 1) rfl (keep_cons (t := 4) rfl (keep_cons (t := 5) rfl (keep_cons (t := 9) rfl (keep_cons (t := 10) rfl (keep_cons (t := 11) rfl (keep_cons (t := 71) rfl (keep_cons (t := 72) rfl (keep_cons (t := 73) rfl (keep_cons (t := 74) rfl (keep_cons (t := 75) rfl (keep_cons (t := 76) rfl keep_nil))))))))))))) ?_
      refine aw_true rfl ?_
      refine aw_skip ?_
      show AW _ _ _ _ _ _ _
      refine aw_seq ?_
      refine aw_block ?_
      refine aw_seq_region ?_
      have hkX : k < X.length := by (rcases Nat.lt_or_ge k X.length with q | q); (exact q); (have := xat_end q; omega)
      obtain ⟨x, hx⟩ := get_ex hkX
      have hxr := hX.rng hL hx
      have hxs := hX.step hL hx
      have hxa := xat_some hx
      have hop := opP_rng hL hX k hk
      rw [hxa] at hop
      rw [hxa]
      refine sr_x rfl (wtd_none rfl) rfl (Rd.x (x_move rfl)) ?_
      refine sr_x rfl (wtd_none rfl) rfl (Rd.x (x_move rfl)) ?_
      refine sr_d rfl (wtd_none rfl) rfl (opS_call rfl rfl rfl rfl cl71 (lnext_s a cap L _ (hs _) (by omega) x (by omega))) ?_
      rintro _ H9 ⟨⟨b, hb, rfl⟩, rfl⟩
      rw [show x % 10080 = x by omega] at hb
      have hbe := hb.eq hL hX hx (Int.le_refl _) hxs.1
      rw [show x / 10080 * 10080 + b = xat X (k + 1) by omega]
      refine sr_x rfl (wtd_none rfl) rfl (Rd.x (x_assign rfl)) ?_
      refine sr_nil ?_
      refine aw_keep (keep_cons (t := 0) rfl (keep_cons (t := 1) rfl (keep_cons (t := 4) rfl (keep_cons (t := 5) rfl (keep_cons (t := 9) rfl (keep_cons (t := 10) rfl (keep_cons (t := 11) rfl (keep_cons (t := 12) rfl (keep_cons (t := 71) rfl (keep_cons (t := 72) rfl (keep_cons (t := 73) rfl (keep_cons (t := 74) rfl (keep_cons (t := 75) rfl (keep_cons (t := 76) rfl (keep_cons (t := 79) rfl (keep_cons (t := 80) rfl (keep_cons (t := 81) rfl keep_nil))))))))))))))))) ?_
      refine aw_seq ?_
      refine aw_seq_region ?_
      refine sr_x rfl (wtd_none rfl) rfl (Rd.x (x_move rfl)) ?_
      refine sr_x rfl (wtd_none rfl) rfl (Rd.x (x_move rfl)) ?_
      refine sr_d rfl (wtd_none rfl) rfl (opS_call rfl rfl rfl rfl cl72 (ltaken_s a cap L _ (hs _) (by omega) x)) ?_
      rintro _ H9 ⟨rfl, rfl⟩
      rw [takT_week hxr]
      refine sr_cmp rfl (wtd_none rfl) rfl (Rd.x (x_eq rfl rfl)) (fun h8 => ?_) (fun h8 => ?_)
      · refine sr_nil ?_
        refine aw_keep (keep_cons (t := 0) rfl (keep_cons (t := 1) rfl (keep_cons (t := 4) rfl (keep_cons (t := 5) rfl (keep_cons (t := 9) rfl (keep_cons (t := 10) rfl (keep_cons (t := 11) rfl (keep_cons (t := 12) rfl (keep_cons (t := 71) rfl (keep_cons (t := 72) rfl (keep_cons (t := 73) rfl (keep_cons (t := 74) rfl (keep_cons (t := 75) rfl (keep_cons (t := 76) rfl (keep_cons (t := 79) rfl (keep_cons (t := 80) rfl (keep_cons (t := 81) rfl (keep_cons (t := 82) rfl (keep_cons (t := 83) rfl (keep_cons (t := 84) rfl (keep_cons (t := 85) rfl keep_nil))))))))))))))))))))) ?_
        refine aw_true rfl ?_
        refine aw_region ?_
        refine sr_x rfl (wtd_none rfl) rfl (Rd.x (x_move rfl)) ?_
        refine sr_x rfl (wtd_none rfl) rfl (Rd.x (x_move rfl)) ?_
        refine sr_x rfl (wtd_none rfl) rfl (Rd.x (x_add' rfl rfl (i64w (by omega) (by omega)))) ?_
        refine sr_x rfl (wtd_none rfl) rfl (Rd.x (x_move rfl)) ?_
        refine sr_x rfl (wtd_none rfl) rfl (Rd.x (x_sub' rfl rfl (i64w (by omega) (by omega)))) ?_
        refine sr_x rfl (wtd_none rfl) rfl (Rd.x (x_assign rfl)) ?_
        refine sr_nil ?_
        show AW _ _ _ _ _ _ _
        refine aw_region ?_
        refine sr_x rfl (wtd_none rfl) rfl (Rd.x (x_move rfl)) ?_
        refine sr_x rfl (wtd_none rfl) rfl (Rd.x (x_assign rfl)) ?_
        refine sr_nil ?_
        show AW _ _ _ _ _ _ _
        refine aw_region ?_
        refine sr_x rfl (wtd_none rfl) rfl (Rd.x (x_move rfl)) ?_
        refine sr_x rfl (wtd_none rfl) rfl (Rd.x (x_add' rfl rfl (i64w (by omega) (by omega)))) ?_
        refine sr_x rfl (wtd_none rfl) rfl (Rd.x (x_assign rfl)) ?_
        refine sr_nil ?_
        show ∃ s', _ ∧ _ ∧ _ ∧ _
        first | exact ⟨k + 1, by omega, by omega, (by rw [opP_succ, hxa, if_pos (by omega), ← Int.add_sub_assoc]; exact (by (repeat (first | exact keep_nil | refine keep_cons rfl ?_)); first | done | fail)), Sub.autoD⟩ | exact ⟨k + 1, by omega, by omega, (by rw [opP_succ, if_neg (by rw [hxa]; omega), Int.add_zero]; exact (by (repeat (first | exact keep_nil | refine keep_cons rfl ?_)); first | done | fail)), Sub.autoD⟩
      · refine sr_nil ?_
        refine aw_keep (keep_cons (t := 0) rfl (keep_cons (t := 1) rfl (keep_cons (t := 4) rfl (keep_cons (t := 5) rfl (keep_cons (t := 9) rfl (keep_cons (t := 10) rfl (keep_cons (t := 11) rfl (keep_cons (t := 12) rfl (keep_cons (t := 71) rfl (keep_cons (t := 72) rfl (keep_cons (t := 73) rfl (keep_cons (t := 74) rfl (keep_cons (t := 75) rfl (keep_cons (t := 76) rfl (keep_cons (t := 79) rfl (keep_cons (t := 80) rfl (keep_cons (t := 81) rfl (keep_cons (t := 82) rfl (keep_cons (t := 83) rfl (keep_cons (t := 84) rfl (keep_cons (t := 85) rfl keep_nil))))))))))))))))))))) ?_
        refine aw_false rfl ?_
        refine aw_skip ?_
        show AW _ _ _ _ _ _ _
        refine aw_region ?_
        refine sr_x rfl (wtd_none rfl) rfl (Rd.x (x_move rfl)) ?_
        refine sr_x rfl (wtd_none rfl) rfl (Rd.x (x_assign rfl)) ?_
        refine sr_nil ?_
        show AW _ _ _ _ _ _ _
        refine aw_region ?_
        refine sr_x rfl (wtd_none rfl) rfl (Rd.x (x_move rfl)) ?_
        refine sr_x rfl (wtd_none rfl) rfl (Rd.x (x_add' rfl rfl (i64w (by omega) (by omega)))) ?_
        refine sr_x rfl (wtd_none rfl) rfl (Rd.x (x_assign rfl)) ?_
        refine sr_nil ?_
        show ∃ s', _ ∧ _ ∧ _ ∧ _
        first | exact ⟨k + 1, by omega, by omega, (by rw [opP_succ, hxa, if_pos (by omega), ← Int.add_sub_assoc]; exact (by (repeat (first | exact keep_nil | refine keep_cons rfl ?_)); first | done | fail)), Sub.autoD⟩ | exact ⟨k + 1, by omega, by omega, (by rw [opP_succ, if_neg (by rw [hxa]; omega), Int.add_zero]; exact (by (repeat (first | exact keep_nil | refine keep_cons rfl ?_)); first | done | fail)), Sub.autoD⟩
    · refine sr_x rfl (wtd_none rfl) rfl (Rd.x (x_pick_t rfl rfl rfl)) ?_
      refine sr_nil ?_
      refine aw_keep (keep_cons (t := 0) rfl (keep_cons (t := 1) rfl (keep_cons (t := 4) rfl (keep_cons (t := 5) rfl (keep_cons (t := 9) rfl (keep_cons (t := 10) rfl (keep_cons (t := 11) rfl (keep_cons (t := 71) rfl (keep_cons (t := 72) rfl (keep_cons (t := 73) rfl (keep_cons (t := 74) rfl (keep_cons (t := 75) rfl (keep_cons (t := 76) rfl keep_nil))))))))))))) ?_
      refine aw_false rfl ?_
      refine aw_exit ?_
      show AW _ _ _ _ _ _ _
      refine aw_seq_region ?_
      obtain rfl : k = X.length := by (rcases Nat.lt_or_eq_of_le hk with q | q); (exfalso; obtain ⟨x, hx⟩ := get_ex q; have := hX.rng hL hx; have := xat_some hx; omega); (exact q)
      refine sr_x rfl (wtd_none rfl) rfl (Rd.x (x_move rfl)) ?_
      refine sr_x rfl (wtd_none rfl) rfl (Rd.x (x_move rfl)) ?_
      refine sr_d rfl (wtd_none rfl) rfl (opS_call rfl rfl rfl rfl cl73 (ctaken_s _ _ L hWK hL h64 _ (Sub.take (by repeat (first | exact Take.here | apply Take.there | apply Take.app)) (Sub.takeE0 (by repeat (first | exact TakeE.here | apply TakeE.there | apply TakeE.app)))) t)) ?_
      rintro _ H9 ⟨rfl, rfl⟩
      refine sr_x rfl (wtd_none rfl) rfl (Rd.x (x_move rfl)) ?_
      refine sr_x rfl (wtd_none rfl) rfl (Rd.x (x_move rfl)) ?_
      refine sr_d rfl (wtd_none rfl) rfl (opS_call rfl rfl rfl rfl cl72 (ltaken_s a cap L _ (hs _) (by omega) t)) ?_
      rintro _ H9 ⟨rfl, rfl⟩
      refine sr_cmp rfl (wtd_none rfl) rfl (Rd.x (x_eq rfl rfl)) (fun h9 => ?_) (fun h9 => absurd (by first | omega | decide) h9)
      refine sr_x rfl (wtd_none rfl) rfl (Rd.x (x_move rfl)) ?_
      refine sr_x rfl (wtd_yes rfl rfl rfl) rfl (Rd.x (x_move rfl)) ?_
      refine sr_d rfl (wtd_yes rfl rfl rfl) rfl (opS_call rfl rfl rfl rfl cl74 (copen_s _ _ L hWK hL h64 _ (Sub.take (by repeat (first | exact Take.here | apply Take.there | apply Take.app)) (Sub.takeE0 (by repeat (first | exact TakeE.here | apply TakeE.there | apply TakeE.app)))))) ?_
      rintro _ H9 ⟨⟨Y, hY, rfl⟩, rfl⟩
      obtain rfl := hX.uniq hY
      refine sr_x rfl (wtd_yes rfl rfl rfl) rfl (Rd.x (x_move rfl)) ?_
      refine sr_cmp rfl (wtd_yes rfl rfl rfl) rfl (Rd.x (x_eq rfl rfl)) (fun h10 => ?_) (fun h10 => absurd (by first | omega | decide) h10)
      refine sr_x rfl (wtd_none rfl) rfl (Rd.x (x_pick_t rfl rfl rfl)) ?_
      refine sr_x rfl (wtd_none rfl) rfl (Rd.x (x_move rfl)) ?_
      refine sr_x rfl (wtd_none rfl) rfl (Rd.x (x_pick_t rfl rfl rfl)) ?_
      refine sr_x rfl (wtd_none rfl) rfl (Rd.x (x_move rfl)) ?_
      refine sr_d rfl (wtd_yes rfl rfl rfl) rfl (opS_call rfl rfl rfl rfl cl68 (awake45_s _)) ?_
      rintro _ H9 ⟨rfl, rfl⟩
      refine sr_x rfl (wtd_none rfl) rfl (Rd.x (x_pick_t rfl rfl rfl)) ?_
      refine sr_x rfl (wtd_none rfl) rfl (Rd.x (x_assign rfl)) ?_
      refine sr_nil ?_
      refine aw_keep (keep_cons (t := 4) rfl keep_nil) ?_
      refine aw_ret ?_
      show ∃ v H2, ResV _ _ _ _ _ _ v ∧ Sub H2 _ ∧ _
      exact ⟨_, [], resV rfl (.cons rfl .nil), (Sub.nil _), rfl⟩
end
namespace CalTakesRow
open Go.ChangeShapes Go.WideShapes Go.ChangeAt Go.RowKit
theorem own : ownKnob Try.prog.godebug = none := by kernel_rfl
theorem laid : laidOutB Try.prog = true := by kernel_rfl
set_option maxRecDepth 100000 in
theorem lifted (os : Os) (started : os.Started) (H : Type) (enc : TypeId × Value → H) :
    ReturnsInHanded {} Try.checked os 14 .any (Rows.calTakesSpec.pre6 enc Try.prog Try.f14 Rows.calTakesRow.domain false) (Rows.calTakesSpec.post enc Try.prog Try.f14 false true false false) := by
  refine law_lifted (C := Try.checked) (tb := 4) own started (by kernel_rfl) Try.func14 (ChangeSpec.witness6 (enc := enc) (C := Try.checked) false ⟨#[], #[.slice none 0 0, .int .i64 0], []⟩ 8 (by kernel_rfl) (by kernel_rfl) (by kernel_rfl) (by kernel_rfl)) rfl Try.underlying4 rfl laid (by kernel_rfl) ?_ ?_
  · intro ds h
    match ds, h with
    | [a0, a1], _ => rfl
  · intro W base args ds ps hval hA hlt hsz
    have hA' : DataW.TrodAll enc Try.prog W 0 (fun _ => true) true [99, 2] args ds ps := hA
    clear hA
    obtain ⟨v0, vs0, d0, ds0, p0, q0, rfl, rfl, rfl, h0, r0⟩ := trodAll_cons hA'
    obtain ⟨v1, vs1, d1, ds1, p1, q1, rfl, rfl, rfl, h1, r1⟩ := trodAll_cons r0
    obtain ⟨rfl, rfl, rfl⟩ := trodAll_nil r1
    obtain ⟨a, cap, l, rfl, hs0, _⟩ := opn_slice (en := PSpan.cells) (Ok := fun j => j.Wf) Try.underlying99 cells106 (by decide) (fun fuel cs x h => read_PSpan h) (hval 0 99 v0 rfl rfl) h0
    obtain ⟨t, rfl, hw1⟩ := opn_int Try.underlying2 (hval 1 2 v1 rfl rfl) h1
    by_cases h64 : (l.take 70).length ≤ 64
    · by_cases hL : ∀ x ∈ (l.take 70), winR x = true
      · exact calTakes_ok a cap l hs0 t h64 hL
      · exact calTakes_rng a cap l hs0 t h64 (by simpa using hL)
    · exact calTakes_full a cap l hs0 t (by omega)
theorem joined : joinedFacts Try.prog 14 Try.f14 Rows.calTakesSpec Rows.calTakesRow = true := by
  unfold joinedFacts
  rw [cutMay, cutLif, cutMk]
  kernel_rfl
theorem over : Rows.calTakesRow.holds Try.pinned (OpenSpec.ofChange Rows.calTakesSpec) :=
  OpenClaim.holds_of_wide 14 Try.f14 rfl rfl rfl rfl rfl rfl rfl ⟨rfl, rfl, rfl, rfl, rfl⟩ rfl rfl rfl rfl rfl (by kernel_rfl) Try.func14 joined
    (of_decide_eq_true (by kernel_rfl)) (by unfold Func.isWrapper; first | (rw [if_pos (by decide +kernel)]; kernel_rfl) | (rw [if_neg (by decide +kernel)]; exact ⟨rfl, rfl⟩))
    (fun os started H enc _ => lifted os started H enc)
theorem proved : Rows.CalTakesSaid := over
#print axioms proved
end CalTakesRow
end Go.Proofs.Ytjkojdjjooangaa
