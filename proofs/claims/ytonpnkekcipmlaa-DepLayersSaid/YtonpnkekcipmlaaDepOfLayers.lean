/- Any ids in layers: each once, behind all that it waits for, as early as can be; no condition. -/
import Derived.Test.YtonpnkekcipmlaaDpd
import Derived.Test.YtonpnkekcipmlaaCut
import Derived.Test.YtonpnkekcipmlaaRows
namespace Go.Proofs.Ytonpnkekcipmlaa
open Go.Proofs.Ytonpnkekcipmlaa.Sym
open Go.RowKit (Below)
set_option linter.unusedVariables false
set_option linter.unusedSimpArgs false
theorem cells3 : Try.prog.cellsOf 3 = 1 := by kernel_rfl
theorem cells46 : Try.prog.cellsOf 46 = 3 := by kernel_rfl
theorem cl18 : Callable Try.prog 18 := ⟨Try.f18, Try.func18, by kernel_rfl, by kernel_rfl⟩
theorem cl20 : Callable Try.prog 20 := ⟨Try.f20, Try.func20, by kernel_rfl, by kernel_rfl⟩
theorem cl21 : Callable Try.prog 21 := ⟨Try.f21, Try.func21, by kernel_rfl, by kernel_rfl⟩
theorem cl22 : Callable Try.prog 22 := ⟨Try.f22, Try.func22, by kernel_rfl, by kernel_rfl⟩
theorem cl23 : Callable Try.prog 23 := ⟨Try.f23, Try.func23, by kernel_rfl, by kernel_rfl⟩
def Sym.DEdge.Wf (j : DEdge) : Prop := IntKind.min .i64 ≤ j.job ∧ j.job ≤ IntKind.max .i64 ∧ IntKind.min .i64 ≤ j.for_ ∧ j.for_ ≤ IntKind.max .i64 ∧ IntKind.min .i64 ≤ j.how ∧ j.how ≤ IntKind.max .i64
set_option maxRecDepth 100000 in
theorem read_DEdge {H : Type} {enc : TypeId × Value → H} {w : World} {base : Nat} {spare : Nat → Bool} {held : Bool} {fuel : Nat} {cs : List Value} {x : DataW H × List MemPlace} (h : DataW.trod enc Try.prog w base spare held fuel 46 cs = some x) : ∃ j : DEdge, cs = j.cells ∧ j.Wf := by
  obtain ⟨hlen, n, hf⟩ := read_struct Try.underlying46 h
  rw [cells46] at hlen
  obtain ⟨a0, e0, l0, u0⟩ := read_int Try.underlying3 cells3 (hf 0 _ rfl)
  obtain ⟨a1, e1, l1, u1⟩ := read_int Try.underlying3 cells3 (hf 1 _ rfl)
  obtain ⟨a2, e2, l2, u2⟩ := read_int Try.underlying3 cells3 (hf 2 _ rfl)
  refine ⟨⟨a0, a1, a2⟩, ?_, ⟨l0, u0, l1, u1, l2, u2⟩⟩
  apply List.ext_getElem?
  intro i
  match i with
  | 0 => exact e0
  | 1 => exact e1
  | 2 => exact e2
  | i + 3 => rw [List.getElem?_eq_none (by omega), List.getElem?_eq_none (by simp)]
set_option maxRecDepth 100000 in
theorem open_DEdge {H : Type} {enc : TypeId × Value → H} {w : World} {base b0 : Nat} {spare : Nat → Bool} {held : Bool} {v : Value} {d : DataW H} {p : List MemPlace} {r : Reach} (hv : Value.okWide Try.prog w r b0 46 v) (h : DataW.Trod enc Try.prog w base spare held 46 v d p) : ∃ j : DEdge, v = j.v ∧ j.Wf := by
  obtain ⟨cs, rfl, _⟩ := Go.WideShapes.okWide_struct Try.underlying46 hv
  obtain ⟨fuel, hf⟩ := h
  obtain ⟨j, h1, h2⟩ := read_DEdge hf
  refine ⟨j, ?_, h2⟩
  have : cs = j.cells.toArray := by apply Array.toList_inj.1; exact h1
  rw [this]
theorem read_intC {H : Type} {enc : TypeId × Value → H} {w : World} {base : Nat} {spare : Nat → Bool} {held : Bool} {fuel : Nat} {cs : List Value} {x : DataW H × List MemPlace} (h : DataW.trod enc Try.prog w base spare held fuel 3 cs = some x) : ∃ j : Int, cs = intC j ∧ True := by
  obtain ⟨n, h1, _, h2⟩ := DataW.trod_int Try.underlying3 h
  exact ⟨n, h1, trivial⟩

section
variable {W0 : World}
set_option maxRecDepth 100000 in
set_option maxHeartbeats 8000000 in
theorem depLayers_ok (a : Option Addr) (cap : Nat) (l : List DEdge) (hs0 : ∀ G, SlV W0 G 3 DEdge.cells a cap l) (b : Option Addr) (d : Nat) (ids : List Int) (ht0 : ∀ G, SlV W0 G 1 intC b d ids) : AC Try.prog W0 5 [.slice a l.length cap, .slice b ids.length d] [] (fun v _ => v = .bool true) := by
  obtain ⟨I, hI⟩ : ∃ I, I = ids.take 30 := ⟨_, rfl⟩
  have ht : ∀ G, SlV W0 G 1 intC b d I := fun G => hI ▸ (ht0 G).take 30
  have hle := (ht0 []).le
  have hcb := (ht0 []).capb
  have hI0 : I.length = min 30 ids.length := by (rw [hI, List.length_take])
  have hI1 : 30 < ids.length → I.length = 30 := fun h => by omega
  have hI2 : ¬ 30 < ids.length → I.length = ids.length := fun h => by omega
  refine ac_of Try.func5 rfl rfl rfl ?_
  refine aw_seq_region ?_
  refine sr_as ?_
  refine sr_nil ?_
  refine aw_kp [0, 1, 4] ?_
  refine aw_join (ι := Unit) (fun _ => True) (fun _ => [(0, .slice a l.length cap), (1, .slice b I.length d)]) (fun _ => []) ?_ ?_
  · refine aw_seq_region ?_
    refine sr_mv ?_
    refine sr_rd (x_lenSlice Try.underlying50 rfl) ?_
    refine sr_c (x_gt rfl rfl) (fun h1 => ?_) (fun h1 => ?_)
    · refine sr_nil ?_
      refine aw_kp [0, 1, 4, 19] ?_
      refine aw_true rfl ?_
      refine aw_region ?_
      refine sr_mv ?_
      refine sr_rd (x_sliceHiK 30 Try.underlying50 sz3 rfl rfl rfl (by omega)) ?_
      refine sr_as ?_
      refine sr_nil ?_
      show ∃ s', _ ∧ _ ∧ _
      exact ⟨(), trivial, (by first | (rw [hI1 (by omega)]; exact KeepF.auto) | (rw [hI2 (by omega)]; exact KeepF.auto)), Sub.autoP⟩
    · refine sr_nil ?_
      refine aw_kp [0, 1, 4, 19] ?_
      refine aw_false rfl ?_
      refine aw_skip ?_
      show ∃ s', _ ∧ _ ∧ _
      exact ⟨(), trivial, (by first | (rw [hI1 (by omega)]; exact KeepF.auto) | (rw [hI2 (by omega)]; exact KeepF.auto)), Sub.autoP⟩
  · intro _ _
    refine aw_seq_region ?_
    refine sr_mv ?_
    refine sr_d rfl (wtd_none rfl) rfl (opS_call rfl rfl rfl rfl cl22 (made34_s a cap l _ (hs0 []))) ?_
    rintro _ _ ⟨p, E, a1, c1, E1, a2, c2, E2, rfl, hD, hE40, V1, V2, rfl⟩
    have hs2 := V2.slv' (W0 := W0) (fun _ => rfl) rfl (Sub.refl _)
    refine sr_mv ?_
    refine sr_rd (x_extract rfl rfl) ?_
    refine sr_rd (x_extract rfl rfl) ?_
    refine sr_as ?_
    refine sr_as ?_
    refine sr_nil ?_
    refine aw_kp [1, 5, 6] ?_
    refine aw_seq_region ?_
    refine sr_mv ?_
    refine sr_mv ?_
    refine sr_d rfl (wtd_none rfl) rfl (opS_call rfl rfl rfl rfl cl23 (glayers_s _ _ E (wtsK_dep V1 (by omega) hD) hD b d I _ (Sub.take (by repeat (first | exact Take.here | apply Take.there | apply Take.app)) Sub.autoE) (ht _) (by omega))) ?_
    rintro _ _ ⟨X, Ls, ds, ao, co, Eo, Ei, rfl, hTX, hLay, hLs, hInn, Vo, rfl⟩
    have hso := Vo.slv' (W0 := W0) (fun _ => rfl) rfl (Sub.refl _)
    have hleo := hso.le
    have hcbo := hso.capb
    have hIl := hInn.len
    refine sr_as ?_
    refine sr_nil ?_
    refine aw_kp [1, 6, 7] ?_
    refine aw_seq_region ?_
    refine sr_mv ?_
    refine sr_d rfl (wtd_none rfl) rfl (opS_call rfl rfl rfl rfl cl24 (sorted_s b d I _ (ht _) (by omega))) ?_
    rintro _ _ ⟨Y, a3, c3, E3, rfl, hTY, hYl, V3, rfl⟩
    obtain rfl := hTX.uniq hTY
    refine sr_as ?_
    refine sr_nil ?_
    refine aw_kp [6, 7, 8] ?_
    refine aw_seq_region ?_
    refine sr_as ?_
    refine sr_nil ?_
    refine aw_kp [6, 7, 8, 9] ?_
    refine aw_seq ?_
    refine aw_seq_region ?_
    refine sr_as ?_
    refine sr_nil ?_
    refine aw_kp [6, 7, 8, 9, 10] ?_
    refine aw_block ?_
    refine aw_loop (ι := LwG) (fun s => LayR E s.L (Ls.drop s.n) ∧ s.n ≤ Ls.length ∧ s.L.length + s.k ≤ 30 ∧ OwnVec 1 3 (.slice s.a s.L.length s.c) s.L.length (s.L.flatMap intC) s.E) (fun s => [(6, .slice a2 E.length c2), (7, .slice ao ds.length co), (8, .slice s.a s.L.length s.c), (9, .int .i64 s.n), (10, .int .i64 s.k)]) (fun s => s.E ++ (Eo ++ (Ei ++ (gB p a1 E.length c1 :: (E1 ++ (E2 ++ [])))))) (fun s => s.L.length) ⟨0, 0, X, a3, c3, E3⟩ (⟨hLay, Nat.zero_le _, by dsimp only; omega, V3⟩) KeepF.auto Sub.autoP ?_
    intro s hs9
    obtain ⟨k, n, L, a3, c3, E3⟩ := s
    dsimp only at hs9 ⊢
    obtain ⟨hY, hn, hLk, V3⟩ := hs9
    have hs3 := V3.slv' (W0 := W0) (fun _ => rfl) rfl (Sub.refl _)
    have hle3 := hs3.le
    have hcb3 := hs3.capb
    refine aw_seq ?_
    refine aw_seq_region ?_
    refine sr_mv ?_
    refine sr_c (x_lt rfl rfl) (fun h2 => ?_) (fun h2 => absurd (by first | omega | decide) h2)
    refine sr_mv ?_
    refine sr_ry (x_move rfl) ?_
    refine sr_ry (x_lenSlice Try.underlying50 rfl) ?_
    refine sr_cy (x_gt rfl rfl) (fun h3 => ?_) (fun h3 => ?_)
    · refine sr_rd (x_pick_t rfl rfl rfl) ?_
      refine sr_nil ?_
      refine aw_kp [6, 7, 8, 9, 10, 32, 33, 34, 35, 36, 37, 38] ?_
      refine aw_true rfl ?_
      refine aw_skip ?_
      show AW _ _ _ _ _ _ _
      refine aw_seq ?_
      refine aw_block ?_
      refine aw_seq_region ?_
      refine sr_as ?_
      refine sr_as ?_
      refine sr_nil ?_
      refine aw_kp [6, 7, 8, 9, 10, 11, 12, 32, 33, 34, 35, 36, 37, 38] ?_
      refine aw_seq ?_
      refine aw_seq_region ?_
      refine sr_as ?_
      refine sr_nil ?_
      refine aw_kp [6, 7, 8, 9, 10, 11, 12, 13, 32, 33, 34, 35, 36, 37, 38] ?_
      refine aw_block ?_
      refine aw_loop (ι := NtG) (fun s => s.k ≤ L.length ∧ s.A = (L.take s.k).filter (fun x => !mst E L x) ∧ s.B = (L.take s.k).filter (mst E L) ∧ OwnVec 1 3 (.slice s.a1 s.A.length s.c1) s.A.length (s.A.flatMap intC) s.E1 ∧ OwnVec 1 3 (.slice s.a2 s.B.length s.c2) s.B.length (s.B.flatMap intC) s.E2) (fun s => [(6, .slice a2 E.length c2), (7, .slice ao ds.length co), (8, .slice a3 L.length c3), (9, .int .i64 n), (10, .int .i64 k), (11, .slice s.a1 s.A.length s.c1), (12, .slice s.a2 s.B.length s.c2), (13, .int .i64 s.k)]) (fun s => s.E1 ++ (s.E2 ++ (E3 ++ (Eo ++ (Ei ++ (gB p a1 E.length c1 :: (E1 ++ (E2 ++ [])))))))) (fun s => L.length - s.k) ⟨0, [], none, 0, [], [], none, 0, []⟩ (⟨Nat.zero_le _, rfl, rfl, .nil, .nil⟩) KeepF.auto Sub.autoP ?_
      intro s hs9
      obtain ⟨i, A, b1, d1, F1, B, b2, d2, F2⟩ := s
      dsimp only at hs9 ⊢
      obtain ⟨hk, hA, hB, VA, VB⟩ := hs9
      have hAl : A.length ≤ i := by (rw [hA]; have := List.length_filter_le (fun x => !mst E L x) (L.take i); rw [List.length_take] at this; omega)
      have hBl : B.length ≤ i := by (rw [hB]; have := List.length_filter_le (mst E L) (L.take i); rw [List.length_take] at this; omega)
      refine aw_seq ?_
      refine aw_seq_region ?_
      refine sr_mv ?_
      refine sr_mv ?_
      refine sr_rd (x_lenSlice Try.underlying50 rfl) ?_
      refine sr_c (x_lt rfl rfl) (fun h4 => ?_) (fun h4 => ?_)
      · refine sr_nil ?_
        refine aw_kp [6, 7, 8, 9, 10, 11, 12, 13, 41, 42, 43, 44] ?_
        refine aw_true rfl ?_
        refine aw_skip ?_
        show AW _ _ _ _ _ _ _
        refine aw_seq ?_
        refine aw_block ?_
        refine aw_seq_region ?_
        obtain ⟨x, hx⟩ := get_ex (show i < L.length by omega)
        obtain ⟨bi, oi, hai, hci⟩ := hs3.at_ _ _ hx
        refine sr_mv ?_
        refine sr_mv ?_
        refine sr_mv ?_
        refine sr_rd (x_indexAddrN (i) Try.underlying50 sz3 rfl hai rfl (by omega) (by omega)) ?_
        refine sr_rd (x_load ag3 rfl (cells_get (Cells.mono hci Sub.autoE) 0 rfl)) ?_
        refine sr_d rfl (wtd_none rfl) rfl (opS_call rfl rfl rfl rfl cl20 (lwaits_s a2 c2 E _ (hs2.mono Sub.autoE) (by omega) x)) ?_
        rintro _ _ ⟨W, a4, c4, E4, rfl, hT4, hl4, V4, rfl⟩
        have hs4 := V4.slv' (W0 := W0) (fun _ => rfl) rfl (Sub.refl _)
        have hle4 := hs4.le
        have hcb4 := hs4.capb
        refine sr_as ?_
        refine sr_nil ?_
        refine aw_kp [6, 7, 8, 9, 10, 11, 12, 13, 14, 41, 42, 43, 44, 47, 48, 49, 50, 51, 52] ?_
        refine aw_seq_region ?_
        refine sr_as ?_
        refine sr_nil ?_
        refine aw_kp [6, 7, 8, 9, 10, 11, 12, 13, 14, 15, 41, 42, 43, 44, 47, 48, 49, 50, 51, 52] ?_
        refine aw_seq ?_
        refine aw_seq_region ?_
        refine sr_as ?_
        refine sr_nil ?_
        refine aw_kp [6, 7, 8, 9, 10, 11, 12, 13, 14, 15, 16, 41, 42, 43, 44, 47, 48, 49, 50, 51, 52] ?_
        refine aw_block ?_
        refine aw_loop (ι := JmG) (fun s => s.j ≤ W.length ∧ (W.take s.j).any (fun y => decide (y ∈ L)) = s.m) (fun s => [(6, .slice a2 E.length c2), (7, .slice ao ds.length co), (8, .slice a3 L.length c3), (9, .int .i64 n), (10, .int .i64 k), (11, .slice b1 A.length d1), (12, .slice b2 B.length d2), (13, .int .i64 i), (14, .slice a4 W.length c4), (15, .bool s.m), (16, .int .i64 s.j)]) (fun s => E4 ++ (F1 ++ (F2 ++ (E3 ++ (Eo ++ (Ei ++ (gB p a1 E.length c1 :: (E1 ++ (E2 ++ []))))))))) (fun s => W.length - s.j) ⟨0, false⟩ (⟨Nat.zero_le _, rfl⟩) KeepF.auto Sub.autoP ?_
        intro s hs9
        obtain ⟨j, m⟩ := s
        dsimp only at hs9 ⊢
        obtain ⟨hj, hm⟩ := hs9
        cases m
        · refine aw_seq ?_
          refine aw_seq_region ?_
          refine sr_mv ?_
          refine sr_mv ?_
          refine sr_rd (x_lenSlice Try.underlying50 rfl) ?_
          refine sr_c (x_lt rfl rfl) (fun h5 => ?_) (fun h5 => ?_)
          · refine sr_nil ?_
            refine aw_kp [6, 7, 8, 9, 10, 11, 12, 13, 14, 15, 16, 53, 54, 55, 56] ?_
            refine aw_true rfl ?_
            refine aw_skip ?_
            show AW _ _ _ _ _ _ _
            refine aw_seq ?_
            refine aw_block ?_
            refine aw_region ?_
            obtain ⟨y, hy⟩ := get_ex (show j < W.length by omega)
            obtain ⟨bj, oj, haj, hcj⟩ := hs4.at_ _ _ hy
            refine sr_mv ?_
            refine sr_mv ?_
            refine sr_ry (x_move rfl) ?_
            refine sr_ry (x_move rfl) ?_
            refine sr_ry (x_move rfl) ?_
            refine sr_ry (x_indexAddrN (j) Try.underlying50 sz3 rfl haj rfl (by omega) (by omega)) ?_
            refine sr_ry (x_load ag3 rfl (cells_get (Cells.mono hcj Sub.autoE) 0 rfl)) ?_
            refine sr_d rfl (wtd_yes rfl rfl rfl) rfl (opS_call rfl rfl rfl rfl cl16 (has_s a3 c3 L _ (hs3.mono Sub.autoE) y)) ?_
            rintro _ H9 ⟨rfl, rfl⟩
            generalize hd : decide (y ∈ L) = d1
            refine sr_rd (x_pick_f rfl rfl rfl) ?_
            refine sr_as ?_
            refine sr_nil ?_
            show AW _ _ _ _ _ _ _
            refine aw_region ?_
            refine sr_mv ?_
            refine sr_rd (x_add' rfl rfl (i64w (by omega) (by omega))) ?_
            refine sr_as ?_
            refine sr_nil ?_
            show ∃ s', _ ∧ _ ∧ _ ∧ _
            first | exact ⟨⟨j + 1, d1⟩, ⟨by dsimp only; omega, (by dsimp only; rw [any_take1 hy, hm, hd]; rfl)⟩, by dsimp only; omega, KeepF.auto, Sub.autoD⟩ | exact ⟨⟨j + 1, true⟩, ⟨by dsimp only; omega, (by dsimp only; rw [any_take1 hy, hm]; rfl)⟩, by dsimp only; omega, KeepF.auto, Sub.autoD⟩
          · refine sr_nil ?_
            refine aw_kp [6, 7, 8, 9, 10, 11, 12, 13, 14, 15, 16, 53, 54, 55, 56] ?_
            refine aw_false rfl ?_
            refine aw_exit ?_
            show AW _ _ _ _ _ _ _
            refine aw_seq_region ?_
            rw [List.take_of_length_le (by omega), tms_any hT4] at hm
            refine sr_mv ?_
            refine sr_nil ?_
            refine aw_kp [6, 7, 8, 9, 10, 11, 12, 13, 14, 15, 16, 53, 54, 55, 56, 68] ?_
            refine aw_false rfl ?_
            refine aw_region ?_
            refine sr_mv ?_
            refine sr_mv ?_
            refine sr_mv ?_
            refine sr_rd (x_indexAddrN (i) Try.underlying50 sz3 rfl hai rfl (by omega) (by omega)) ?_
            refine sr_rd (x_load ag3 rfl (cells_get (Cells.mono hci Sub.autoE) 0 rfl)) ?_
            refine sr_new rfl (wtd_none rfl) rfl (x_buildSlice Try.underlying50 sz3 zr3 rfl rfl rfl rfl Parts.auto Fill.auto) ?_
            intro r22_5 hr22_5 gr22_5
            refine sr_d rfl (wtd_none rfl) rfl (opS_append (G := (r22_5, .cells [.int .i64 x].toArray 3 (0, 0)) :: (E4 ++ (F2 ++ (E3 ++ (Eo ++ (Ei ++ (gB p a1 E.length c1 :: (E1 ++ (E2 ++ []))))))))) (N := (intC x)) (m := 1) Try.underlying50 sz3 zr3 rfl by3 rfl rfl VA Sub.autoP (.inr ⟨_, _, rfl, (cells_ext mauto Ext.auto)⟩) (rfl) rfl (by omega) (by omega)) ?_
            rintro v82 _ ⟨E82, hV82, rfl⟩
            obtain ⟨a82, cap82, rfl⟩ := hV82.isSl
            refine sr_as ?_
            refine sr_nil ?_
            show AW _ _ _ _ _ _ _
            refine aw_region ?_
            refine sr_mv ?_
            refine sr_rd (x_add' rfl rfl (i64w (by omega) (by omega))) ?_
            refine sr_as ?_
            refine sr_nil ?_
            show ∃ s', _ ∧ _ ∧ _ ∧ _
            first | exact ⟨⟨i + 1, A ++ [x], a82, cap82, E82, B, b2, d2, F2⟩, ⟨by dsimp only; omega, (by dsimp only; rw [filter_take1 hx, if_pos (by rw [hm]; rfl), hA]), (by dsimp only; rw [filter_take1 hx, if_neg (by rw [hm]; simp), List.append_nil, hB]), OwnVec.snocS hV82, VB⟩, by dsimp only; omega, (by rw [List.length_append]; exact KeepF.auto), Sub.autoD⟩ | exact ⟨⟨i + 1, A, b1, d1, F1, B ++ [x], a75, cap75, E75⟩, ⟨by dsimp only; omega, (by dsimp only; rw [filter_take1 hx, if_neg (by rw [hm]; simp), List.append_nil, hA]), (by dsimp only; rw [filter_take1 hx, if_pos hm, hB]), VA, OwnVec.snocS hV75⟩, by dsimp only; omega, (by rw [List.length_append]; exact KeepF.auto), Sub.autoD⟩
        · refine aw_seq ?_
          refine aw_seq_region ?_
          refine sr_mv ?_
          refine sr_mv ?_
          refine sr_rd (x_lenSlice Try.underlying50 rfl) ?_
          refine sr_c (x_lt rfl rfl) (fun h6 => ?_) (fun h6 => ?_)
          · refine sr_nil ?_
            refine aw_kp [6, 7, 8, 9, 10, 11, 12, 13, 14, 15, 16, 53, 54, 55, 56] ?_
            refine aw_true rfl ?_
            refine aw_skip ?_
            show AW _ _ _ _ _ _ _
            refine aw_seq ?_
            refine aw_block ?_
            refine aw_region ?_
            obtain ⟨y, hy⟩ := get_ex (show j < W.length by omega)
            obtain ⟨bj, oj, haj, hcj⟩ := hs4.at_ _ _ hy
            refine sr_mv ?_
            refine sr_mv ?_
            refine sr_sk ?_
            refine sr_sk ?_
            refine sr_sk ?_
            refine sr_sk ?_
            refine sr_sk ?_
            refine sr_sk ?_
            refine sr_rd (x_pick_t rfl rfl rfl) ?_
            refine sr_as ?_
            refine sr_nil ?_
            show AW _ _ _ _ _ _ _
            refine aw_region ?_
            refine sr_mv ?_
            refine sr_rd (x_add' rfl rfl (i64w (by omega) (by omega))) ?_
            refine sr_as ?_
            refine sr_nil ?_
            show ∃ s', _ ∧ _ ∧ _ ∧ _
            first | exact ⟨⟨j + 1, d1⟩, ⟨by dsimp only; omega, (by dsimp only; rw [any_take1 hy, hm, hd]; rfl)⟩, by dsimp only; omega, KeepF.auto, Sub.autoD⟩ | exact ⟨⟨j + 1, true⟩, ⟨by dsimp only; omega, (by dsimp only; rw [any_take1 hy, hm]; rfl)⟩, by dsimp only; omega, KeepF.auto, Sub.autoD⟩
          · refine sr_nil ?_
            refine aw_kp [6, 7, 8, 9, 10, 11, 12, 13, 14, 15, 16, 53, 54, 55, 56] ?_
            refine aw_false rfl ?_
            refine aw_exit ?_
            show AW _ _ _ _ _ _ _
            refine aw_seq_region ?_
            rw [List.take_of_length_le (by omega), tms_any hT4] at hm
            refine sr_mv ?_
            refine sr_nil ?_
            refine aw_kp [6, 7, 8, 9, 10, 11, 12, 13, 14, 15, 16, 53, 54, 55, 56, 68] ?_
            refine aw_true rfl ?_
            refine aw_region ?_
            refine sr_mv ?_
            refine sr_mv ?_
            refine sr_mv ?_
            refine sr_rd (x_indexAddrN (i) Try.underlying50 sz3 rfl hai rfl (by omega) (by omega)) ?_
            refine sr_rd (x_load ag3 rfl (cells_get (Cells.mono hci Sub.autoE) 0 rfl)) ?_
            refine sr_new rfl (wtd_none rfl) rfl (x_buildSlice Try.underlying50 sz3 zr3 rfl rfl rfl rfl Parts.auto Fill.auto) ?_
            intro r21_5 hr21_5 gr21_5
            refine sr_d rfl (wtd_none rfl) rfl (opS_append (G := (r21_5, .cells [.int .i64 x].toArray 3 (0, 0)) :: (E4 ++ (F1 ++ (E3 ++ (Eo ++ (Ei ++ (gB p a1 E.length c1 :: (E1 ++ (E2 ++ []))))))))) (N := (intC x)) (m := 1) Try.underlying50 sz3 zr3 rfl by3 rfl rfl VB Sub.autoP (.inr ⟨_, _, rfl, (cells_ext mauto Ext.auto)⟩) (rfl) rfl (by omega) (by omega)) ?_
            rintro v75 _ ⟨E75, hV75, rfl⟩
            obtain ⟨a75, cap75, rfl⟩ := hV75.isSl
            refine sr_as ?_
            refine sr_nil ?_
            show AW _ _ _ _ _ _ _
            refine aw_region ?_
            refine sr_mv ?_
            refine sr_rd (x_add' rfl rfl (i64w (by omega) (by omega))) ?_
            refine sr_as ?_
            refine sr_nil ?_
            show ∃ s', _ ∧ _ ∧ _ ∧ _
            first | exact ⟨⟨i + 1, A ++ [x], a82, cap82, E82, B, b2, d2, F2⟩, ⟨by dsimp only; omega, (by dsimp only; rw [filter_take1 hx, if_pos (by rw [hm]; rfl), hA]), (by dsimp only; rw [filter_take1 hx, if_neg (by rw [hm]; simp), List.append_nil, hB]), OwnVec.snocS hV82, VB⟩, by dsimp only; omega, (by rw [List.length_append]; exact KeepF.auto), Sub.autoD⟩ | exact ⟨⟨i + 1, A, b1, d1, F1, B ++ [x], a75, cap75, E75⟩, ⟨by dsimp only; omega, (by dsimp only; rw [filter_take1 hx, if_neg (by rw [hm]; simp), List.append_nil, hA]), (by dsimp only; rw [filter_take1 hx, if_pos hm, hB]), VA, OwnVec.snocS hV75⟩, by dsimp only; omega, (by rw [List.length_append]; exact KeepF.auto), Sub.autoD⟩
      · refine sr_nil ?_
        refine aw_kp [6, 7, 8, 9, 10, 11, 12, 13, 41, 42, 43, 44] ?_
        refine aw_false rfl ?_
        refine aw_exit ?_
        show AW _ _ _ _ _ _ _
        refine aw_seq ?_
        refine aw_seq_region ?_
        rw [List.take_of_length_le (by omega)] at hA hB
        have hA3 : A = nowL E L := hA
        have hB3 : B = thnL E L := hB
        have hnn := now_ne hD (show 0 < L.length by omega)
        have hnt := now_thn E L
        have hA2 := congrArg List.length hA3
        have hB2 := congrArg List.length hB3
        have hY9 := hY.go (show 0 < L.length by omega)
        have hnl := get_lt hY9.1
        obtain ⟨a6, c6, E6, hd6, V6, hU6⟩ := hInn.at_ hY9.1
        obtain ⟨bo, oo, hao, hco⟩ := hso.at_ _ _ hd6
        refine sr_mv ?_
        refine sr_mv ?_
        refine sr_rd (x_lenSlice Try.underlying57 rfl) ?_
        refine sr_c (x_ge rfl rfl) (fun h7 => absurd h7 (by first | omega | decide)) (fun h7 => ?_)
        refine sr_mv ?_
        refine sr_ry (x_move rfl) ?_
        refine sr_ry (x_move rfl) ?_
        refine sr_ry (x_indexAddrN (n) Try.underlying57 sz50 rfl hao rfl (by omega) (by omega)) ?_
        refine sr_ry (x_load ag50 rfl (cells_get (Cells.mono hco Sub.autoE) 0 rfl)) ?_
        refine sr_ry (x_move rfl) ?_
        refine sr_d rfl (wtd_yes rfl rfl rfl) rfl (opS_call rfl rfl rfl rfl cl18 (dsame_s _ _ _ _ (nowL E L) A _ (V6.slv' (fun _ => rfl) rfl (hU6.trans Sub.autoE)) (VA.slv' (fun _ => rfl) rfl Sub.autoE))) ?_
        rintro _ H9 ⟨rfl, rfl⟩
        rw [decide_eq_true hA3.symm]
        refine sr_ry (x_not rfl) ?_
        refine sr_rd (x_pick_f rfl rfl rfl) ?_
        refine sr_mv ?_
        refine sr_ry (x_move rfl) ?_
        refine sr_ry (x_lenSlice Try.underlying50 rfl) ?_
        refine sr_cy (x_eq rfl rfl) (fun h8 => absurd h8 (by first | omega | decide)) (fun h8 => ?_)
        refine sr_rd (x_pick_f rfl rfl rfl) ?_
        refine sr_nil ?_
        refine aw_kp [6, 7, 8, 9, 10, 11, 12, 13, 41, 42, 43, 44, 83, 84, 85, 86, 87, 88, 89, 90, 91, 92, 93, 94, 95, 96, 97, 98, 99, 100] ?_
        refine aw_false rfl ?_
        refine aw_skip ?_
        show AW _ _ _ _ _ _ _
        refine aw_seq_region ?_
        refine sr_mv ?_
        refine sr_rd (x_add' rfl rfl (i64w (by omega) (by omega))) ?_
        refine sr_as ?_
        refine sr_nil ?_
        refine aw_kp [6, 7, 8, 9, 10, 11, 12, 13, 41, 42, 43, 44, 83, 84, 85, 86, 87, 88, 89, 90, 91, 92, 93, 94, 95, 96, 97, 98, 99, 100, 101, 102] ?_
        refine aw_region ?_
        refine sr_mv ?_
        refine sr_as ?_
        refine sr_nil ?_
        show AW _ _ _ _ _ _ _
        refine aw_region ?_
        refine sr_mv ?_
        refine sr_rd (x_add' rfl rfl (i64w (by omega) (by omega))) ?_
        refine sr_as ?_
        refine sr_nil ?_
        show ∃ s', _ ∧ _ ∧ _ ∧ _
        exact ⟨⟨k + 1, n + 1, B, b2, d2, F2⟩, ⟨(by dsimp only; rw [hB3]; exact hY9.2), by dsimp only; omega, by dsimp only; omega, VB⟩, by dsimp only; omega, KeepF.auto, Sub.autoP⟩
    · refine sr_rd (x_pick_t rfl rfl rfl) ?_
      refine sr_nil ?_
      refine aw_kp [6, 7, 8, 9, 10, 32, 33, 34, 35, 36, 37, 38] ?_
      refine aw_false rfl ?_
      refine aw_exit ?_
      show AW _ _ _ _ _ _ _
      refine aw_seq_region ?_
      have hL0 : L.length = 0 := by omega
      have hdn := hY.done hL0
      have hnl : n = Ls.length := by (rw [List.drop_eq_nil_iff] at hdn; omega)
      refine sr_mv ?_
      refine sr_mv ?_
      refine sr_rd (x_lenSlice Try.underlying57 rfl) ?_
      refine sr_c (x_eq rfl rfl) (fun h9 => ?_) (fun h9 => absurd (by first | omega | decide) h9)
      refine sr_mv ?_
      refine sr_ry (x_move rfl) ?_
      refine sr_ry (x_lenSlice Try.underlying50 rfl) ?_
      refine sr_cy (x_eq rfl rfl) (fun h10 => ?_) (fun h10 => absurd (by first | omega | decide) h10)
      refine sr_rd (x_pick_t rfl rfl rfl) ?_
      refine sr_mv ?_
      refine sr_d rfl (wtd_yes rfl rfl rfl) rfl (opS_call rfl rfl rfl rfl cl21 (awake34_s _)) ?_
      rintro _ H9 ⟨rfl, rfl⟩
      refine sr_rd (x_pick_t rfl rfl rfl) ?_
      refine sr_as ?_
      refine sr_nil ?_
      refine aw_kp [4] ?_
      refine aw_ret ?_
      show ∃ v H2, ResV _ _ _ _ _ _ v ∧ Sub H2 _ ∧ _
      exact ⟨_, [], resV rfl (.cons rfl .nil), (Sub.nil _), rfl⟩
end
namespace DepLayersRow
open Go.ChangeShapes Go.WideShapes Go.ChangeAt Go.RowKit
theorem own : ownKnob Try.prog.godebug = none := by kernel_rfl
theorem laid : laidOutB Try.prog = true := by kernel_rfl
set_option maxRecDepth 100000 in
theorem lifted (os : Os) (started : os.Started) (H : Type) (enc : TypeId × Value → H) :
    ReturnsInHanded {} Try.checked os 5 .any (Rows.depLayersSpec.pre6 enc Try.prog Try.f5 Rows.depLayersRow.domain false) (Rows.depLayersSpec.post enc Try.prog Try.f5 false true false false) := by
  refine law_lifted (C := Try.checked) (tb := 4) own started (by kernel_rfl) Try.func5 (ChangeSpec.witness6 (enc := enc) (C := Try.checked) false ⟨#[], #[.slice none 0 0, .slice none 0 0], []⟩ 8 (by kernel_rfl) (by kernel_rfl) (by kernel_rfl) (by kernel_rfl)) rfl Try.underlying4 rfl laid (by kernel_rfl) ?_ ?_
  · intro ds h
    match ds, h with
    | [a0, a1], _ => rfl
  · intro W base args ds ps hval hA hlt hsz
    have hA' : DataW.TrodAll enc Try.prog W 0 (fun _ => true) true [39, 50] args ds ps := hA
    clear hA
    obtain ⟨v0, vs0, d0, ds0, p0, q0, rfl, rfl, rfl, h0, r0⟩ := trodAll_cons hA'
    obtain ⟨v1, vs1, d1, ds1, p1, q1, rfl, rfl, rfl, h1, r1⟩ := trodAll_cons r0
    obtain ⟨rfl, rfl, rfl⟩ := trodAll_nil r1
    obtain ⟨a, cap, l, rfl, hs0, _⟩ := opn_slice (en := DEdge.cells) (Ok := fun j => j.Wf) Try.underlying39 cells46 (by decide) (fun fuel cs x h => read_DEdge h) (hval 0 39 v0 rfl rfl) h0
    obtain ⟨b, d, ids, rfl, ht0, _⟩ := opn_slice (en := intC) (Ok := fun _ => True) Try.underlying50 cells3 (by decide) (fun fuel cs x h => read_intC h) (hval 1 50 v1 rfl rfl) h1
    exact depLayers_ok a cap l hs0 b d ids ht0
theorem joined : joinedFacts Try.prog 5 Try.f5 Rows.depLayersSpec Rows.depLayersRow = true := by
  unfold joinedFacts
  rw [cutMay, cutLif, cutMk]
  kernel_rfl
theorem over : Rows.depLayersRow.holds Try.pinned (OpenSpec.ofChange Rows.depLayersSpec) :=
  OpenClaim.holds_of_wide 5 Try.f5 rfl rfl rfl rfl rfl rfl rfl ⟨rfl, rfl, rfl, rfl, rfl⟩ rfl rfl rfl rfl rfl (by kernel_rfl) Try.func5 joined
    (of_decide_eq_true (by kernel_rfl)) (by unfold Func.isWrapper; first | (rw [if_pos (by decide +kernel)]; kernel_rfl) | (rw [if_neg (by decide +kernel)]; exact ⟨rfl, rfl⟩))
    (fun os started H enc _ => lifted os started H enc)
theorem proved : Rows.DepLayersSaid := over
#print axioms proved
end DepLayersRow
end Go.Proofs.Ytonpnkekcipmlaa
