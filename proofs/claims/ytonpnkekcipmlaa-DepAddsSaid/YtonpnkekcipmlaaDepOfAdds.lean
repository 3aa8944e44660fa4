/- Which edges are put in, why others are not, and for whom a job waits, are what the law's own functions tell; no condition. -/
import Derived.Test.YtonpnkekcipmlaaDpc
import Derived.Test.YtonpnkekcipmlaaCut
import Derived.Test.YtonpnkekcipmlaaRows
namespace Go.Proofs.Ytonpnkekcipmlaa
open Go.Proofs.Ytonpnkekcipmlaa.Sym
open Go.RowKit (Below)
set_option linter.unusedVariables false
set_option linter.unusedSimpArgs false
theorem cells3 : Try.prog.cellsOf 3 = 1 := by kernel_rfl
theorem cells46 : Try.prog.cellsOf 46 = 3 := by kernel_rfl
theorem cl18 : Callable Try.prog 18 := ⟨Try.f18, Try.func18, by kernel_rfl, by kernel_rfl⟩
theorem cl19 : Callable Try.prog 19 := ⟨Try.f19, Try.func19, by kernel_rfl, by kernel_rfl⟩
theorem cl20 : Callable Try.prog 20 := ⟨Try.f20, Try.func20, by kernel_rfl, by kernel_rfl⟩
theorem cl21 : Callable Try.prog 21 := ⟨Try.f21, Try.func21, by kernel_rfl, by kernel_rfl⟩
theorem ks46 : kindsOf Try.prog 46 = some [.int, .int, .int] := by kernel_rfl
def Sym.DEdge.Wf (j : DEdge) : Prop := IntKind.min .i64 ≤ j.job ∧ j.job ≤ IntKind.max .i64 ∧ IntKind.min .i64 ≤ j.for_ ∧ j.for_ ≤ IntKind.max .i64 ∧ IntKind.min .i64 ≤ j.how ∧ j.how ≤ IntKind.max .i64
set_option maxRecDepth 100000 in
theorem read_DEdge {H : Type} {enc : TypeId × Value → H} {w : World} {base : Nat} {spare : Nat → Bool} {held : Bool} {fuel : Nat} {cs : List Value} {x : DataW H × List MemPlace} (h : DataW.trod enc Try.prog w base spare held fuel 46 cs = some x) : ∃ j : DEdge, cs = j.cells ∧ j.Wf := by
  obtain ⟨hlen, n, hf⟩ := read_struct Try.underlying46 h
  rw [cells46] at hlen
  obtain ⟨a0, e0, l0, u0⟩ := read_int Try.underlying3 cells3 (hf 0 _ rfl)
  obtain ⟨a1, e1, l1, u1⟩ := read_int Try.underlying3 cells3 (hf 1 _ rfl)
  obtain ⟨a2, e2, l2, u2⟩ := read_int Try.underlying3 cells3 (hf 2 _ rfl)
  refine ⟨⟨a0, a1, a2⟩, ?_, ⟨l0, u0, l1, u1, l2, u2⟩⟩
  apply List.ext_getElem?
  intro i
  match i with
  | 0 => exact e0
  | 1 => exact e1
  | 2 => exact e2
  | i + 3 => rw [List.getElem?_eq_none (by omega), List.getElem?_eq_none (by simp)]
set_option maxRecDepth 100000 in
theorem open_DEdge {H : Type} {enc : TypeId × Value → H} {w : World} {base b0 : Nat} {spare : Nat → Bool} {held : Bool} {v : Value} {d : DataW H} {p : List MemPlace} {r : Reach} (hv : Value.okWide Try.prog w r b0 46 v) (h : DataW.Trod enc Try.prog w base spare held 46 v d p) : ∃ j : DEdge, v = j.v ∧ j.Wf := by
  obtain ⟨cs, rfl, _⟩ := Go.WideShapes.okWide_struct Try.underlying46 hv
  obtain ⟨fuel, hf⟩ := h
  obtain ⟨j, h1, h2⟩ := read_DEdge hf
  refine ⟨j, ?_, h2⟩
  have : cs = j.cells.toArray := by apply Array.toList_inj.1; exact h1
  rw [this]

section
variable {W0 : World}
set_option maxRecDepth 100000 in
set_option maxHeartbeats 4000000 in
theorem depAdds_ok (a : Option Addr) (cap : Nat) (l : List DEdge) (hs0 : ∀ G, SlV W0 G 3 DEdge.cells a cap l) (id : Int) : AC Try.prog W0 4 [.slice a l.length cap, .int .i64 id] [] (fun v _ => v = .bool true) := by
  obtain ⟨L, hLL⟩ : ∃ L, L = l.take 40 := ⟨_, rfl⟩
  have hs : ∀ G, SlV W0 G 3 DEdge.cells a cap L := fun G => hLL ▸ (hs0 G).take 40
  have hle := (hs []).le
  have hcb := (hs []).capb
  have hL40 : L.length ≤ 40 := by (rw [hLL, List.length_take]; omega)
  refine ac_of Try.func4 rfl rfl rfl ?_
  refine aw_seq_region ?_
  refine sr_as ?_
  refine sr_nil ?_
  refine aw_kp [0, 1, 4] ?_
  refine aw_seq_region ?_
  refine sr_mv ?_
  refine sr_d rfl (wtd_none rfl) rfl (opS_call rfl rfl rfl rfl cl11 (few34_s a cap l _ (hs0 []))) ?_
  rintro _ _ ⟨rfl, rfl⟩
  rw [← hLL]
  refine sr_as ?_
  refine sr_nil ?_
  refine aw_kp [0, 1, 4] ?_
  refine aw_seq_region ?_
  refine sr_d rfl (wtd_none rfl) rfl (opS_call rfl rfl rfl rfl cl12 (gnew_s _)) ?_
  rintro _ _ ⟨p, rfl, rfl⟩
  refine sr_as ?_
  refine sr_nil ?_
  refine aw_kp [0, 1, 4, 5] ?_
  refine aw_seq_region ?_
  refine sr_as ?_
  refine sr_nil ?_
  refine aw_kp [0, 1, 4, 5, 6] ?_
  refine aw_seq ?_
  refine aw_seq_region ?_
  refine sr_as ?_
  refine sr_nil ?_
  refine aw_kp [0, 1, 4, 5, 6, 7] ?_
  refine aw_block ?_
  refine aw_loop (ι := MdG) (fun s => s.k ≤ L.length ∧ DgI s.E ∧ s.E.length ≤ s.k ∧ OwnVec 3 46 (.slice s.a1 s.E.length s.c1) s.E.length (s.E.flatMap DEdge.cells) s.E1 ∧ OwnVec 3 46 (.slice s.a2 s.E.length s.c2) s.E.length (s.E.flatMap DEdge.cells) s.E2) (fun s => [(0, .slice a L.length cap), (1, .int .i64 id), (5, .pointer (some ⟨p, 0, none⟩)), (6, .slice s.a2 s.E.length s.c2), (7, .int .i64 s.k)]) (fun s => gB p s.a1 s.E.length s.c1 :: (s.E1 ++ (s.E2 ++ []))) (fun s => L.length - s.k) ⟨0, [], none, 0, [], none, 0, []⟩ (⟨Nat.zero_le _, DgI.nil, Nat.le_refl _, .nil, .nil⟩) KeepF.auto Sub.autoP ?_
  intro s hs9
  obtain ⟨k, E, a1, c1, E1, a2, c2, E2⟩ := s
  dsimp only at hs9 ⊢
  obtain ⟨hk, hD, hEk, V1, V2⟩ := hs9
  refine aw_seq ?_
  refine aw_seq_region ?_
  refine sr_mv ?_
  refine sr_mv ?_
  refine sr_rd (x_lenSlice Try.underlying39 rfl) ?_
  refine sr_c (x_lt rfl rfl) (fun h1 => ?_) (fun h1 => ?_)
  · refine sr_nil ?_
    refine aw_kp [0, 1, 5, 6, 7, 15, 16, 17, 18] ?_
    refine aw_true rfl ?_
    refine aw_skip ?_
    show AW _ _ _ _ _ _ _
    refine aw_seq ?_
    refine aw_block ?_
    refine aw_seq_region ?_
    obtain ⟨e, he⟩ := get_ex (show k < L.length by omega)
    obtain ⟨be, oe, hae, hce⟩ := (hs []).at_ _ _ he
    refine sr_mv ?_
    refine sr_mv ?_
    refine sr_mv ?_
    refine sr_rd (x_indexAddrN (k) Try.underlying39 sz46 rfl hae rfl (by omega) (by omega)) ?_
    refine sr_rd (x_loadN ag46 sz46 rfl (Cells.mono hce (Sub.nil _)) rfl) ?_
    refine sr_d rfl (wtd_none rfl) rfl (opS_call rfl rfl rfl rfl cl13 (AC.sub Sub.autoP (ladd_s a2 c2 E E2 (gB p a1 E.length c1 :: (E1 ++ [])) V2 (by omega) e))) ?_
    rintro _ _ ⟨r3, E3, a3, c3, E5, rfl, hA3, V3, rfl⟩
    refine sr_mv ?_
    refine sr_rd (x_extract rfl rfl) ?_
    refine sr_rd (x_extract rfl rfl) ?_
    refine sr_as ?_
    refine sr_as ?_
    refine sr_nil ?_
    refine aw_kp [0, 1, 5, 6, 7, 8, 9, 15, 16, 17, 18, 21, 22, 23, 24, 25, 26, 27, 28, 29] ?_
    refine aw_seq ?_
    refine aw_seq_region ?_
    refine sr_mv ?_
    refine sr_mv ?_
    refine sr_mv ?_
    refine sr_rd (x_indexAddrN (k) Try.underlying39 sz46 rfl hae rfl (by omega) (by omega)) ?_
    refine sr_rd (x_loadN ag46 sz46 rfl (Cells.mono hce (Sub.nil _)) rfl) ?_
    refine sr_d rfl (wtd_none rfl) rfl (opS_call rfl rfl rfl rfl cl14 (AC.sub Sub.autoP (gadd_s p a1 c1 E E1 (E5 ++ []) V1 (by omega) e))) ?_
    rintro _ _ ⟨r4, E4, a4, c4, E6, rfl, hA, V4, rfl⟩
    obtain ⟨rfl, rfl⟩ := hA.uniq hA3
    refine sr_mv ?_
    refine sr_c (x_ne rfl rfl) (fun h2 => absurd h2 (by first | omega | decide)) (fun h2 => ?_)
    refine sr_nil ?_
    refine aw_kp [0, 1, 5, 6, 7, 8, 9, 15, 16, 17, 18, 21, 22, 23, 24, 25, 26, 27, 28, 29, 30, 31, 32, 33, 34, 35, 36, 37] ?_
    refine aw_false rfl ?_
    refine aw_skip ?_
    show AW _ _ _ _ _ _ _
    refine aw_region ?_
    refine sr_mv ?_
    refine sr_as ?_
    refine sr_nil ?_
    show AW _ _ _ _ _ _ _
    refine aw_region ?_
    refine sr_mv ?_
    refine sr_rd (x_add' rfl rfl (i64w (by omega) (by omega))) ?_
    refine sr_as ?_
    refine sr_nil ?_
    show ∃ s', _ ∧ _ ∧ _ ∧ _
    exact ⟨⟨k + 1, E4, a4, c4, E6, a3, c3, E5⟩, ⟨by dsimp only; omega, hD.add hA, (by dsimp only; have := hA.len; omega), V4, V3⟩, by dsimp only; omega, KeepF.auto, Sub.autoP⟩
  · refine sr_nil ?_
    refine aw_kp [0, 1, 5, 6, 7, 15, 16, 17, 18] ?_
    refine aw_false rfl ?_
    refine aw_exit ?_
    show AW _ _ _ _ _ _ _
    refine aw_seq_region ?_
    refine sr_mv ?_
    refine sr_d rfl (wtd_none rfl) rfl (opS_call rfl rfl rfl rfl cl15 (gedges_s p a1 c1 E _ (cells_ext mauto (Ext.all _)) (V1.slv' (fun _ => rfl) rfl Sub.autoE) (by omega))) ?_
    rintro _ _ ⟨E7, ⟨a7, c7, V7, rfl⟩, rfl⟩
    have hs7 := V7.slv' (W0 := W0) (fun _ => rfl) rfl (Sub.refl _)
    have hs2 := V2.slv' (W0 := W0) (fun _ => rfl) rfl (Sub.refl _)
    have hle7 := hs7.le
    have hcb7 := hs7.capb
    have hle2 := hs2.le
    have hcb2 := hs2.capb
    refine sr_as ?_
    refine sr_nil ?_
    refine aw_kp [1, 5, 6, 10] ?_
    refine aw_seq ?_
    refine aw_seq_region ?_
    refine sr_mv ?_
    refine sr_rd (x_lenSlice Try.underlying39 rfl) ?_
    refine sr_mv ?_
    refine sr_rd (x_lenSlice Try.underlying39 rfl) ?_
    refine sr_c (x_ne rfl rfl) (fun h3 => absurd h3 (by first | omega | decide)) (fun h3 => ?_)
    refine sr_nil ?_
    refine aw_kp [1, 5, 6, 10, 45] ?_
    refine aw_false rfl ?_
    refine aw_skip ?_
    show AW _ _ _ _ _ _ _
    refine aw_seq ?_
    refine aw_seq_region ?_
    refine sr_as ?_
    refine sr_nil ?_
    refine aw_kp [1, 5, 6, 10, 11] ?_
    refine aw_block ?_
    refine aw_loop (ι := Nat) (fun k => k ≤ E.length) (fun k => [(1, .int .i64 id), (5, .pointer (some ⟨p, 0, none⟩)), (6, .slice a2 E.length c2), (10, .slice a7 E.length c7), (11, .int .i64 k)]) (fun _ => E7 ++ (gB p a1 E.length c1 :: (E1 ++ (E2 ++ [])))) (fun k => E.length - k) 0 (Nat.zero_le _) KeepF.auto Sub.autoP ?_
    intro k hk2
    refine aw_seq ?_
    refine aw_seq_region ?_
    refine sr_mv ?_
    refine sr_mv ?_
    refine sr_rd (x_lenSlice Try.underlying39 rfl) ?_
    refine sr_c (x_lt rfl rfl) (fun h4 => ?_) (fun h4 => ?_)
    · refine sr_nil ?_
      refine aw_kp [1, 5, 6, 10, 11, 46, 47, 48, 49] ?_
      refine aw_true rfl ?_
      refine aw_skip ?_
      show AW _ _ _ _ _ _ _
      refine aw_seq ?_
      refine aw_block ?_
      refine aw_seq_dr ⟨_, 24, 86, [[], [], [0, 1], [0, 1, 2], [], [], [4, 5], [4, 5, 6], [0, 1, 2, 3, 4, 5, 6, 7], [0, 1, 2, 3, 4, 5, 6, 7, 8], [0, 1, 2, 3, 4, 5, 6, 7, 8, 9], [0, 1, 2, 3, 4, 5, 6, 7, 8, 9], [0, 1, 2, 3, 4, 5, 6, 7, 8, 9], [0, 1, 2, 3, 4, 5, 6, 7, 8, 9, 11, 12], [0, 1, 2, 3, 4, 5, 6, 7, 8, 9, 11, 12, 13], [0, 1, 2, 3, 4, 5, 6, 7, 8, 9, 11, 12, 13, 14], [0, 1, 2, 3, 4, 5, 6, 7, 8, 9, 10, 11, 12, 13, 14, 15], [0, 1, 2, 3, 4, 5, 6, 7, 8, 9], [0, 1, 2, 3, 4, 5, 6, 7, 8, 9], [0, 1, 2, 3, 4, 5, 6, 7, 8, 9, 17, 18], [0, 1, 2, 3, 4, 5, 6, 7, 8, 9, 17, 18, 19], [0, 1, 2, 3, 4, 5, 6, 7, 8, 9, 17, 18, 19, 20], [0, 1, 2, 3, 4, 5, 6, 7, 8, 9, 10, 11, 12, 13, 14, 15, 16, 17, 18, 19, 20, 21], [0, 1, 2, 3, 4, 5, 6, 7, 8, 9, 10, 11, 12, 13, 14, 15, 16, 17, 18, 19, 20, 21, 22]], [.light, .light, .light, .mem, .light, .light, .light, .mem, .light, .light, .light, .light, .light, .light, .light, .mem, .call, .light, .light, .light, .light, .mem, .call, .light]⟩ (by kernel_rfl) rfl rfl mix ?_
      obtain ⟨e, he⟩ := get_ex (show k < E.length by omega)
      obtain ⟨be, oe, hae, hce⟩ := hs2.at_ _ _ he
      obtain ⟨bf, of_, haf, hcf⟩ := hs7.at_ _ _ he
      refine dr_l (x_move rfl) ?_
      refine dr_l (x_move rfl) ?_
      refine dr_l (x_indexAddrN (k) Try.underlying39 sz46 rfl haf rfl (by omega) (by omega)) ?_
      refine dr_mem0 rfl rfl (wtd_none rfl) (x_loadN ag46 sz46 rfl (Cells.mono hcf Sub.autoE) rfl) ?_
      refine dr_l (x_move rfl) ?_
      refine dr_l (x_move rfl) ?_
      refine dr_l (x_indexAddrN (k) Try.underlying39 sz46 rfl hae rfl (by omega) (by omega)) ?_
      refine dr_mem0 rfl rfl (wtd_none rfl) (x_loadN ag46 sz46 rfl (Cells.mono hce Sub.autoE) rfl) ?_
      refine dr_cmp rfl rfl (wtd_none rfl) (x_neStruct Try.underlying46 ks46 rfl rfl rfl rfl rfl) (fun h5 => absurd h5 (by simp [eqC, sEq])) (fun h5 => ?_)
      refine dr_l (x_move rfl) ?_
      refine dr_y (x_move rfl) ?_
      refine dr_y (x_move rfl) ?_
      refine dr_y (x_move rfl) ?_
      refine dr_y (x_indexAddrN (k) Try.underlying39 sz46 rfl hae rfl (by omega) (by omega)) ?_
      refine dr_y (x_fieldAddr fd46_1 rfl) ?_
      refine dr_mem0 rfl rfl (wtd_yes rfl rfl rfl) (x_load ag3 rfl (cells_get (Cells.mono hce Sub.autoE) 1 rfl)) ?_
      refine dr_call rfl (V := []) rfl rfl (wtd_yes rfl rfl rfl) (opS_F rfl rfl rfl rfl cl17 (reach_s a2 c2 E _ (hs2.mono Sub.autoE) (by omega) e.for_)) (reach_fresh (by omega)) ?_
      rintro _ EC ⟨X, aC, cC, rfl, hX, hXl, VC⟩
      refine dr_y (x_move rfl) ?_
      refine dr_y (x_move rfl) ?_
      refine dr_y (x_indexAddrN (k) Try.underlying39 sz46 rfl hae rfl (by omega) (by omega)) ?_
      refine dr_y (x_fieldAddr fd46_0 rfl) ?_
      refine dr_mem rfl (V := []) rfl rfl (wtd_yes rfl rfl rfl) (x_load ag3 rfl (cells_get (Cells.mono hce Sub.autoE) 0 rfl)) ?_
      refine dr_callq rfl (V := (EC ++ [])) rfl rfl rfl (wtd_yes rfl rfl rfl) (opS_F rfl rfl rfl rfl cl16 ((has_s aC cC X _ (VC.slv' (fun _ => rfl) rfl (by first | exact sub_n1 | exact sub_n2 | exact sub_news | exact Sub.autoE)) e.job))) (⟨_, rfl⟩) ?_
      rintro _ rfl
      rw [decide_eq_false (fun q => hD.acy e (List.mem_of_getElem? he) ((hX e.job).1 q))]
      refine dr_l (x_pick_f rfl rfl rfl) ?_
      refine dr_drop ?_
      refine aw_kp [1, 5, 6, 10, 11, 46, 47, 48, 49, 52, 53, 54, 55, 56, 57, 58, 59, 60, 61, 62, 63, 64, 65, 66, 67, 68, 69, 70, 71, 72, 73, 74, 75] ?_
      refine aw_false rfl ?_
      refine aw_skip ?_
      show AW _ _ _ _ _ _ _
      refine aw_region ?_
      refine sr_mv ?_
      refine sr_rd (x_add' rfl rfl (i64w (by omega) (by omega))) ?_
      refine sr_as ?_
      refine sr_nil ?_
      show ∃ s', _ ∧ _ ∧ _ ∧ _
      exact ⟨k + 1, by omega, by omega, KeepF.auto, Sub.autoP⟩
    · refine sr_nil ?_
      refine aw_kp [1, 5, 6, 10, 11, 46, 47, 48, 49] ?_
      refine aw_false rfl ?_
      refine aw_exit ?_
      show AW _ _ _ _ _ _ _
      refine aw_seq_region ?_
      refine sr_mv ?_
      refine sr_mv ?_
      refine sr_d rfl (wtd_none rfl) rfl (opS_call rfl rfl rfl rfl cl19 (wtsK_dep V1 (by omega) hD _ (Sub.take (by repeat (first | exact Take.here | apply Take.there | apply Take.app)) Sub.autoE) id)) ?_
      rintro _ _ ⟨X, a8, c8, E8, rfl, hT8, hl8, V8, rfl⟩
      refine sr_mv ?_
      refine sr_mv ?_
      refine sr_d rfl (wtd_none rfl) rfl (opS_call rfl rfl rfl rfl cl20 (lwaits_s a2 c2 E _ (hs2.mono Sub.autoE) (by omega) id)) ?_
      rintro _ _ ⟨Y, a9, c9, E9, rfl, hT9, hl9, V9, rfl⟩
      obtain rfl := hT8.uniq hT9
      refine sr_d rfl (wtd_none rfl) rfl (opS_call rfl rfl rfl rfl cl18 (dsame_s a8 a9 c8 c9 X X _ (V8.slv' (fun _ => rfl) rfl Sub.autoE) (V9.slv' (fun _ => rfl) rfl Sub.autoE))) ?_
      rintro _ H9 ⟨rfl, rfl⟩
      rw [decide_eq_true rfl]
      refine sr_mv ?_
      refine sr_d rfl (wtd_yes rfl rfl rfl) rfl (opS_call rfl rfl rfl rfl cl21 (awake34_s _)) ?_
      rintro _ H9 ⟨rfl, rfl⟩
      refine sr_rd (x_pick_t rfl rfl rfl) ?_
      refine sr_as ?_
      refine sr_nil ?_
      refine aw_kp [4] ?_
      refine aw_ret ?_
      show ∃ v H2, ResV _ _ _ _ _ _ v ∧ Sub H2 _ ∧ _
      exact ⟨_, [], resV rfl (.cons rfl .nil), (Sub.nil _), rfl⟩
end
namespace DepAddsRow
open Go.ChangeShapes Go.WideShapes Go.ChangeAt Go.RowKit
theorem own : ownKnob Try.prog.godebug = none := by kernel_rfl
theorem laid : laidOutB Try.prog = true := by kernel_rfl
set_option maxRecDepth 100000 in
theorem lifted (os : Os) (started : os.Started) (H : Type) (enc : TypeId × Value → H) :
    ReturnsInHanded {} Try.checked os 4 .any (Rows.depAddsSpec.pre6 enc Try.prog Try.f4 Rows.depAddsRow.domain false) (Rows.depAddsSpec.post enc Try.prog Try.f4 false true false false) := by
  refine law_lifted (C := Try.checked) (tb := 4) own started (by kernel_rfl) Try.func4 (ChangeSpec.witness6 (enc := enc) (C := Try.checked) false ⟨#[], #[.slice none 0 0, .int .i64 0], []⟩ 8 (by kernel_rfl) (by kernel_rfl) (by kernel_rfl) (by kernel_rfl)) rfl Try.underlying4 rfl laid (by kernel_rfl) ?_ ?_
  · intro ds h
    match ds, h with
    | [a0, a1], _ => rfl
  · intro W base args ds ps hval hA hlt hsz
    have hA' : DataW.TrodAll enc Try.prog W 0 (fun _ => true) true [39, 3] args ds ps := hA
    clear hA
    obtain ⟨v0, vs0, d0, ds0, p0, q0, rfl, rfl, rfl, h0, r0⟩ := trodAll_cons hA'
    obtain ⟨v1, vs1, d1, ds1, p1, q1, rfl, rfl, rfl, h1, r1⟩ := trodAll_cons r0
    obtain ⟨rfl, rfl, rfl⟩ := trodAll_nil r1
    obtain ⟨a, cap, l, rfl, hs0, _⟩ := opn_slice (en := DEdge.cells) (Ok := fun j => j.Wf) Try.underlying39 cells46 (by decide) (fun fuel cs x h => read_DEdge h) (hval 0 39 v0 rfl rfl) h0
    obtain ⟨id, rfl, hw1⟩ := opn_int Try.underlying3 (hval 1 3 v1 rfl rfl) h1
    exact depAdds_ok a cap l hs0 id
theorem joined : joinedFacts Try.prog 4 Try.f4 Rows.depAddsSpec Rows.depAddsRow = true := by
  unfold joinedFacts
  rw [cutMay, cutLif, cutMk]
  kernel_rfl
theorem over : Rows.depAddsRow.holds Try.pinned (OpenSpec.ofChange Rows.depAddsSpec) :=
  OpenClaim.holds_of_wide 4 Try.f4 rfl rfl rfl rfl rfl rfl rfl ⟨rfl, rfl, rfl, rfl, rfl⟩ rfl rfl rfl rfl rfl (by kernel_rfl) Try.func4 joined
    (of_decide_eq_true (by kernel_rfl)) (by unfold Func.isWrapper; first | (rw [if_pos (by decide +kernel)]; kernel_rfl) | (rw [if_neg (by decide +kernel)]; exact ⟨rfl, rfl⟩))
    (fun os started H enc _ => lifted os started H enc)
theorem proved : Rows.DepAddsSaid := over
#print axioms proved
end DepAddsRow
end Go.Proofs.Ytonpnkekcipmlaa
