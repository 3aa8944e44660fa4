/- Any entries are sorted by their times; no condition but that the listed variables lie as the program's text lays them. -/
import Derived.Test.YtbcajgkaepihfaaDoorSfb
import Derived.Test.YtbcajgkaepihfaaDoorSymLaid
import Derived.Test.YtbcajgkaepihfaaDoorRows
import Derived.Test.YtbcajgkaepihfaaDoorCards
import Derived.Test.YtbcajgkaepihfaaDoorTie
import Derived.Test.YtbcajgkaepihfaaDoorCut
import Derived.SevenTiedAt
namespace Go.Proofs.YtbcajgkaepihfaaDoor
open Go.Proofs.YtbcajgkaepihfaaDoor.Sym
open Go.RowKit (Below)
set_option linter.unusedVariables false
set_option linter.unusedSimpArgs false
theorem cells2 : Tryd.prog.cellsOf 2 = 1 := by kernel_rfl
theorem cells3 : Tryd.prog.cellsOf 3 = 1 := by kernel_rfl
theorem cells30 : Tryd.prog.cellsOf 30 = 6 := by kernel_rfl
theorem cl18 : Callable Tryd.prog 18 := ⟨Tryd.f18, Tryd.func18, by kernel_rfl, by kernel_rfl⟩
theorem cl36 : Callable Tryd.prog 36 := ⟨Tryd.f36, Tryd.func36, by kernel_rfl, by kernel_rfl⟩
theorem cl37 : Callable Tryd.prog 37 := ⟨Tryd.f37, Tryd.func37, by kernel_rfl, by kernel_rfl⟩
section
variable {W0 : World}
set_option maxRecDepth 100000 in
theorem read_Ent {H : Type} {enc : TypeId × Value → H} {w : World} {base : Nat} {spare : Nat → Bool} {held : Bool} {fuel : Nat} {cs : List Value} {x : DataW H × List MemPlace} (h : DataW.trod enc Tryd.prog w base spare held fuel 30 cs = some x) : ∃ j : Ent, cs = j.cells ∧ j.Wf := by
  obtain ⟨hlen, n, hf⟩ := read_struct Tryd.underlying30 h
  rw [cells30] at hlen
  obtain ⟨a0, e0, l0, u0⟩ := read_int Tryd.underlying2 cells2 (hf 0 _ rfl)
  obtain ⟨a1, e1, l1, u1⟩ := read_int Tryd.underlying2 cells2 (hf 1 _ rfl)
  obtain ⟨a2, e2, l2, u2⟩ := read_int Tryd.underlying2 cells2 (hf 2 _ rfl)
  obtain ⟨a3, e3, l3, u3⟩ := read_int Tryd.underlying3 cells3 (hf 3 _ rfl)
  obtain ⟨a4, e4, l4, u4⟩ := read_int Tryd.underlying3 cells3 (hf 4 _ rfl)
  obtain ⟨a5, e5, l5, u5⟩ := read_int Tryd.underlying3 cells3 (hf 5 _ rfl)
  refine ⟨⟨a0, a1, a2, a3, a4, a5⟩, ?_, ⟨l0, u0, l1, u1, l2, u2, l3, u3, l4, u4, l5, u5⟩⟩
  apply List.ext_getElem?
  intro i
  match i with
  | 0 => exact e0
  | 1 => exact e1
  | 2 => exact e2
  | 3 => exact e3
  | 4 => exact e4
  | 5 => exact e5
  | i + 6 => rw [List.getElem?_eq_none (by omega), List.getElem?_eq_none (by simp)]
set_option maxRecDepth 100000 in
theorem open_Ent {H : Type} {enc : TypeId × Value → H} {w : World} {base b0 : Nat} {spare : Nat → Bool} {held : Bool} {v : Value} {d : DataW H} {p : List MemPlace} {r : Reach} (hv : Value.okWide Tryd.prog w r b0 30 v) (h : DataW.Trod enc Tryd.prog w base spare held 30 v d p) : ∃ j : Ent, v = j.v ∧ j.Wf := by
  obtain ⟨cs, rfl, _⟩ := Go.WideShapes.okWide_struct Tryd.underlying30 hv
  obtain ⟨fuel, hf⟩ := h
  obtain ⟨j, h1, h2⟩ := read_Ent hf
  refine ⟨j, ?_, h2⟩
  have : cs = j.cells.toArray := by apply Array.toList_inj.1; exact h1
  rw [this]
end

section
variable {W0 : World}
set_option maxRecDepth 100000 in
set_option maxHeartbeats 4000000 in
theorem swfSorts_s (sa : Option Addr) (scap : Nat) (l : List Ent) (hs0 : ∀ G, SlV W0 G 6 Ent.cells sa scap l) : AC Tryd.prog W0 12 [.slice sa l.length scap] [] (fun v _ => v = .bool true) := by
  have hle0 := (hs0 []).le
  have hcb0 := (hs0 []).capb
  refine ac_of Tryd.func12 rfl rfl rfl ?_
  refine aw_seq_region ?_
  refine sr_as ?_
  refine sr_nil ?_
  refine aw_kp [0, 2] ?_
  refine aw_join (ι := Unit) (fun _ => True) (fun _ => [(0, .slice sa (l.take 40).length scap), (2, .bool false)]) (fun _ => []) ?_ ?_
  · refine aw_seq_region ?_
    refine sr_mv ?_
    refine sr_rd (x_lenSlice Tryd.underlying24 rfl) ?_
    refine sr_c (x_gt rfl rfl) (fun h1 => ?_) (fun h1 => ?_)
    · refine sr_nil ?_
      refine aw_kp [0, 2, 10] ?_
      refine aw_true rfl ?_
      refine aw_region ?_
      refine sr_mv ?_
      refine sr_rd (x_sliceHi Tryd.underlying24 sz30 rfl rfl (by omega) (by omega)) ?_
      refine sr_as ?_
      refine sr_nil ?_
      show ∃ s', _ ∧ _ ∧ _
      exact ⟨(), trivial, (by first | (rw [List.length_take, Nat.min_eq_left (by omega)]; exact KeepF.auto) | (rw [List.length_take, Nat.min_eq_right (by omega)]; exact KeepF.auto)), Sub.autoP⟩
    · refine sr_nil ?_
      refine aw_kp [0, 2, 10] ?_
      refine aw_false rfl ?_
      refine aw_skip ?_
      show ∃ s', _ ∧ _ ∧ _
      exact ⟨(), trivial, (by first | (rw [List.length_take, Nat.min_eq_left (by omega)]; exact KeepF.auto) | (rw [List.length_take, Nat.min_eq_right (by omega)]; exact KeepF.auto)), Sub.autoP⟩
  · intro _ _
    obtain ⟨xs, hxs⟩ : ∃ xs, xs = l.take 40 := ⟨_, rfl⟩
    have hs : ∀ G, SlV W0 G 6 Ent.cells sa scap xs := fun G => hxs ▸ (hs0 G).take 40
    have hx60 : xs.length ≤ 40 := by rw [hxs, List.length_take]; omega
    rw [← hxs]
    have hle := (hs []).le
    have hcb := (hs []).capb
    refine aw_seq_region ?_
    refine sr_mv ?_
    refine sr_d rfl (wtd_none rfl) rfl (opS_call rfl rfl rfl rfl cl36 (esort_s sa scap xs _ (hs _) (by omega))) ?_
    rintro _ _ ⟨W, a2, c2, E2, rfl, hst, hsr, V2, rfl⟩
    have hWl : W.length = xs.length := hst.1.length_eq
    have V2s := V2.slv' (W0 := W0) (xs := W) (fun _ => rfl) hWl.symm (Sub.refl _)
    have hle2 := V2s.le
    have hcb2 := V2s.capb
    refine sr_as ?_
    refine sr_nil ?_
    refine aw_kp [0, 2, 3] ?_
    refine aw_seq ?_
    refine aw_seq_region ?_
    refine sr_mv ?_
    refine sr_rd (x_lenSlice Tryd.underlying24 rfl) ?_
    refine sr_mv ?_
    refine sr_rd (x_lenSlice Tryd.underlying24 rfl) ?_
    refine sr_c (x_ne rfl rfl) (fun h2 => absurd h2 (by first | omega | decide)) (fun h2 => ?_)
    refine sr_nil ?_
    refine aw_kp [0, 2, 3, 19] ?_
    refine aw_false rfl ?_
    refine aw_skip ?_
    show AW _ _ _ _ _ _ _
    refine aw_seq ?_
    refine aw_seq_region ?_
    refine sr_as ?_
    refine sr_nil ?_
    refine aw_kp [0, 2, 3, 4] ?_
    refine aw_block ?_
    refine aw_loop (ι := Nat) (fun i => i ≤ xs.length) (fun i => [(0, .slice sa xs.length scap), (2, .bool false), (3, .slice a2 xs.length c2), (4, .int .i64 i)]) (fun _ => E2 ++ []) (fun i => xs.length - i) 0 (Nat.zero_le _) KeepF.auto Sub.autoP ?_
    intro i hi
    refine aw_seq ?_
    refine aw_seq_region ?_
    refine sr_mv ?_
    refine sr_mv ?_
    refine sr_rd (x_lenSlice Tryd.underlying24 rfl) ?_
    refine sr_c (x_lt rfl rfl) (fun h3 => ?_) (fun h3 => ?_)
    · refine sr_nil ?_
      refine aw_kp [0, 2, 3, 4, 20, 21, 22, 23] ?_
      refine aw_true rfl ?_
      refine aw_skip ?_
      show AW _ _ _ _ _ _ _
      refine aw_seq ?_
      refine aw_block ?_
      refine aw_seq_region ?_
      obtain ⟨x, hx⟩ := get_ex (show i < xs.length by omega)
      obtain ⟨bx, ox, hax, hcx⟩ := (hs []).at_ i _ hx
      refine sr_as ?_
      refine sr_nil ?_
      refine aw_kp [0, 2, 3, 4, 5, 20, 21, 22, 23] ?_
      refine aw_seq ?_
      refine aw_seq_region ?_
      refine sr_as ?_
      refine sr_nil ?_
      refine aw_kp [0, 2, 3, 4, 5, 6, 20, 21, 22, 23] ?_
      refine aw_block ?_
      refine aw_loop (ι := Nat) (fun k => k ≤ xs.length) (fun k => [(0, .slice sa xs.length scap), (2, .bool false), (3, .slice a2 xs.length c2), (4, .int .i64 i), (5, .int .i64 ((pos cE xs x i k) : Nat)), (6, .int .i64 k)]) (fun _ => E2 ++ []) (fun k => xs.length - k) 0 (Nat.zero_le _) KeepF.auto Sub.autoP ?_
      intro k hk
      have hpl := pos_le (c := cE) (W := xs) (e := x) (i := i) (k := k)
      refine aw_seq ?_
      refine aw_seq_region ?_
      refine sr_mv ?_
      refine sr_mv ?_
      refine sr_rd (x_lenSlice Tryd.underlying24 rfl) ?_
      refine sr_c (x_lt rfl rfl) (fun h4 => ?_) (fun h4 => ?_)
      · refine sr_nil ?_
        refine aw_kp [0, 2, 3, 4, 5, 6, 26, 27, 28, 29] ?_
        refine aw_true rfl ?_
        refine aw_skip ?_
        show AW _ _ _ _ _ _ _
        refine aw_seq ?_
        refine aw_block ?_
        refine aw_seq_dr ⟨_, 29, 88, [[], [], [0, 1], [0, 1, 2], [0, 1, 2, 3], [], [], [5, 6], [5, 6, 7], [5, 6, 7, 8], [0, 1, 2, 3, 4, 5, 6, 7, 8, 9], [0, 1, 2, 3, 4, 5, 6, 7, 8, 9, 10], [0, 1, 2, 3, 4, 5, 6, 7, 8, 9, 10, 11], [0, 1, 2, 3, 4, 5, 6, 7, 8, 9, 10, 11], [0, 1, 2, 3, 4, 5, 6, 7, 8, 9, 10, 11, 12, 13], [0, 1, 2, 3, 4, 5, 6, 7, 8, 9, 10, 11, 12, 13, 14], [0, 1, 2, 3, 4, 5, 6, 7, 8, 9, 10, 11, 12, 13, 14, 15], [0, 1, 2, 3, 4, 5, 6, 7, 8, 9, 10, 11], [0, 1, 2, 3, 4, 5, 6, 7, 8, 9, 10, 11], [0, 1, 2, 3, 4, 5, 6, 7, 8, 9, 10, 11, 17, 18], [0, 1, 2, 3, 4, 5, 6, 7, 8, 9, 10, 11, 17, 18, 19], [0, 1, 2, 3, 4, 5, 6, 7, 8, 9, 10, 11, 17, 18, 19, 20], [0, 1, 2, 3, 4, 5, 6, 7, 8, 9, 10, 11, 12, 13, 14, 15, 16, 17, 18, 19, 20, 21], [0, 1, 2, 3, 4, 5, 6, 7, 8, 9, 10, 11, 12, 13, 14, 15, 16, 17, 18, 19, 20, 21, 22], [0, 1, 2, 3, 4, 5, 6, 7, 8, 9, 10, 11, 12, 13, 14, 15, 16, 17, 18, 19, 20, 21, 22, 23], [0, 1, 2, 3, 4, 5, 6, 7, 8, 9, 10, 11, 12, 13, 14, 15, 16, 17, 18, 19, 20, 21, 22, 23], [0, 1, 2, 3, 4, 5, 6, 7, 8, 9, 10, 11, 12, 13, 14, 15, 16, 17, 18, 19, 20, 21, 22, 23, 24, 25], [0, 1, 2, 3, 4, 5, 6, 7, 8, 9, 10, 11, 12, 13, 14, 15, 16, 17, 18, 19, 20, 21, 22, 23, 24, 25, 26], [0, 1, 2, 3, 4, 5, 6, 7, 8, 9, 10, 11, 12, 13, 14, 15, 16, 17, 18, 19, 20, 21, 22, 23, 24, 25, 26, 27]], [.light, .light, .light, .light, .mem, .light, .light, .light, .light, .mem, .light, .light, .light, .light, .light, .light, .mem, .light, .light, .light, .light, .mem, .light, .light, .light, .light, .light, .light, .light]⟩ (by kernel_rfl) rfl rfl mix ?_
        obtain ⟨y, hy⟩ := get_ex (show k < xs.length by omega)
        obtain ⟨by_, oy, hay, hcy⟩ := (hs []).at_ k _ hy
        refine dr_l (x_move rfl) ?_
        refine dr_l (x_move rfl) ?_
        refine dr_l (x_indexAddrN (k) Tryd.underlying24 sz30 rfl hay rfl (by omega) (by omega)) ?_
        refine dr_l (x_fieldAddr fd30_0 rfl) ?_
        refine dr_mem0 rfl rfl (wtd_none rfl) (x_load ag2 rfl (cells_get (Cells.mono hcy (Sub.nil _)) 0 rfl)) ?_
        refine dr_l (x_move rfl) ?_
        refine dr_l (x_move rfl) ?_
        refine dr_l (x_indexAddrN (i) Tryd.underlying24 sz30 rfl hax rfl (by omega) (by omega)) ?_
        refine dr_l (x_fieldAddr fd30_0 rfl) ?_
        refine dr_mem0 rfl rfl (wtd_none rfl) (x_load ag2 rfl (cells_get (Cells.mono hcx (Sub.nil _)) 0 rfl)) ?_
        refine dr_cmp rfl rfl (wtd_none rfl) (x_lt rfl rfl) (fun h5 => ?_) (fun h5 => ?_)
        · refine dr_l (x_move rfl) ?_
          refine dr_sk ?_
          refine dr_sk ?_
          refine dr_sk ?_
          refine dr_sk ?_
          refine dr_sk ?_
          refine dr_sk ?_
          refine dr_sk ?_
          refine dr_sk ?_
          refine dr_sk ?_
          refine dr_sk ?_
          refine dr_sk ?_
          refine dr_sk ?_
          refine dr_skip rfl (wtd_un rfl rfl rfl) ?_
          refine dr_skip rfl (wtd_un rfl rfl rfl) ?_
          refine dr_skip rfl (wtd_un rfl rfl rfl) ?_
          refine dr_sk ?_
          refine dr_l (x_pick_t rfl rfl rfl) ?_
          refine dr_nil0 ?_
          refine aw_kp [0, 2, 3, 4, 5, 6, 26, 27, 28, 29, 32, 33, 34, 35, 36, 37, 38, 39, 40, 41, 42, 43, 44, 45, 46, 47, 48, 49, 50, 51, 52, 53, 54, 55, 56, 57, 58, 59, 60] ?_
          refine aw_true rfl ?_
          refine aw_region ?_
          refine sr_mv ?_
          refine sr_rd (x_add' rfl rfl (i64w (by omega) (by omega))) ?_
          refine sr_as ?_
          refine sr_nil ?_
          show AW _ _ _ _ _ _ _
          refine aw_region ?_
          refine sr_mv ?_
          refine sr_rd (x_add' rfl rfl (i64w (by omega) (by omega))) ?_
          refine sr_as ?_
          refine sr_nil ?_
          show ∃ s', _ ∧ _ ∧ _ ∧ _
          first | exact ⟨k + 1, by omega, by omega, (by rw [pos_yes hy (.inl (cE_lt.2 (by omega)))]; exact KeepF.auto), Sub.autoD⟩ | exact ⟨k + 1, by omega, by omega, (by rw [pos_yes hy (.inr ⟨mt cE_lt.1 (by omega), by omega⟩)]; exact KeepF.auto), Sub.autoD⟩ | exact ⟨k + 1, by omega, by omega, (by rw [pos_no hy (mt cE_lt.1 (by omega)) (.inl (cE_lt.2 (by omega)))]; exact KeepF.auto), Sub.autoD⟩ | exact ⟨k + 1, by omega, by omega, (by rw [pos_no hy (mt cE_lt.1 (by omega)) (.inr (by omega))]; exact KeepF.auto), Sub.autoD⟩
        · refine dr_l (x_move rfl) ?_
          refine dr_y (x_move rfl) ?_
          refine dr_y (x_move rfl) ?_
          refine dr_y (x_indexAddrN (k) Tryd.underlying24 sz30 rfl hay rfl (by omega) (by omega)) ?_
          refine dr_y (x_fieldAddr fd30_0 rfl) ?_
          refine dr_mem0 rfl rfl (wtd_yes rfl rfl rfl) (x_load ag2 rfl (cells_get (Cells.mono hcy (Sub.nil _)) 0 rfl)) ?_
          refine dr_y (x_move rfl) ?_
          refine dr_y (x_move rfl) ?_
          refine dr_y (x_indexAddrN (i) Tryd.underlying24 sz30 rfl hax rfl (by omega) (by omega)) ?_
          refine dr_y (x_fieldAddr fd30_0 rfl) ?_
          refine dr_mem0 rfl rfl (wtd_yes rfl rfl rfl) (x_load ag2 rfl (cells_get (Cells.mono hcx (Sub.nil _)) 0 rfl)) ?_
          refine dr_cmp rfl rfl (wtd_yes rfl rfl rfl) (x_eq rfl rfl) (fun h6 => ?_) (fun h6 => ?_)
          · refine dr_y (x_move rfl) ?_
            refine dr_y (x_move rfl) ?_
            refine dr_y (x_move rfl) ?_
            refine dr_cmp rfl rfl (wtd_yes rfl rfl rfl) (x_lt rfl rfl) (fun h7 => ?_) (fun h7 => ?_)
            · refine dr_y (x_pick_t rfl rfl rfl) ?_
              refine dr_l (x_pick_f rfl rfl rfl) ?_
              refine dr_nil0 ?_
              refine aw_kp [0, 2, 3, 4, 5, 6, 26, 27, 28, 29, 32, 33, 34, 35, 36, 37, 38, 39, 40, 41, 42, 43, 44, 45, 46, 47, 48, 49, 50, 51, 52, 53, 54, 55, 56, 57, 58, 59, 60] ?_
              refine aw_true rfl ?_
              refine aw_region ?_
              refine sr_mv ?_
              refine sr_rd (x_add' rfl rfl (i64w (by omega) (by omega))) ?_
              refine sr_as ?_
              refine sr_nil ?_
              show AW _ _ _ _ _ _ _
              refine aw_region ?_
              refine sr_mv ?_
              refine sr_rd (x_add' rfl rfl (i64w (by omega) (by omega))) ?_
              refine sr_as ?_
              refine sr_nil ?_
              show ∃ s', _ ∧ _ ∧ _ ∧ _
              first | exact ⟨k + 1, by omega, by omega, (by rw [pos_yes hy (.inl (cE_lt.2 (by omega)))]; exact KeepF.auto), Sub.autoD⟩ | exact ⟨k + 1, by omega, by omega, (by rw [pos_yes hy (.inr ⟨mt cE_lt.1 (by omega), by omega⟩)]; exact KeepF.auto), Sub.autoD⟩ | exact ⟨k + 1, by omega, by omega, (by rw [pos_no hy (mt cE_lt.1 (by omega)) (.inl (cE_lt.2 (by omega)))]; exact KeepF.auto), Sub.autoD⟩ | exact ⟨k + 1, by omega, by omega, (by rw [pos_no hy (mt cE_lt.1 (by omega)) (.inr (by omega))]; exact KeepF.auto), Sub.autoD⟩
            · refine dr_y (x_pick_t rfl rfl rfl) ?_
              refine dr_l (x_pick_f rfl rfl rfl) ?_
              refine dr_nil0 ?_
              refine aw_kp [0, 2, 3, 4, 5, 6, 26, 27, 28, 29, 32, 33, 34, 35, 36, 37, 38, 39, 40, 41, 42, 43, 44, 45, 46, 47, 48, 49, 50, 51, 52, 53, 54, 55, 56, 57, 58, 59, 60] ?_
              refine aw_false rfl ?_
              refine aw_skip ?_
              show AW _ _ _ _ _ _ _
              refine aw_region ?_
              refine sr_mv ?_
              refine sr_rd (x_add' rfl rfl (i64w (by omega) (by omega))) ?_
              refine sr_as ?_
              refine sr_nil ?_
              show ∃ s', _ ∧ _ ∧ _ ∧ _
              first | exact ⟨k + 1, by omega, by omega, (by rw [pos_yes hy (.inl (cE_lt.2 (by omega)))]; exact KeepF.auto), Sub.autoD⟩ | exact ⟨k + 1, by omega, by omega, (by rw [pos_yes hy (.inr ⟨mt cE_lt.1 (by omega), by omega⟩)]; exact KeepF.auto), Sub.autoD⟩ | exact ⟨k + 1, by omega, by omega, (by rw [pos_no hy (mt cE_lt.1 (by omega)) (.inl (cE_lt.2 (by omega)))]; exact KeepF.auto), Sub.autoD⟩ | exact ⟨k + 1, by omega, by omega, (by rw [pos_no hy (mt cE_lt.1 (by omega)) (.inr (by omega))]; exact KeepF.auto), Sub.autoD⟩
          · refine dr_y (x_move rfl) ?_
            refine dr_sk ?_
            refine dr_sk ?_
            refine dr_sk ?_
            refine dr_y (x_pick_f rfl rfl rfl) ?_
            refine dr_l (x_pick_f rfl rfl rfl) ?_
            refine dr_nil0 ?_
            refine aw_kp [0, 2, 3, 4, 5, 6, 26, 27, 28, 29, 32, 33, 34, 35, 36, 37, 38, 39, 40, 41, 42, 43, 44, 45, 46, 47, 48, 49, 50, 51, 52, 53, 54, 55, 56, 57, 58, 59, 60] ?_
            refine aw_false rfl ?_
            refine aw_skip ?_
            show AW _ _ _ _ _ _ _
            refine aw_region ?_
            refine sr_mv ?_
            refine sr_rd (x_add' rfl rfl (i64w (by omega) (by omega))) ?_
            refine sr_as ?_
            refine sr_nil ?_
            show ∃ s', _ ∧ _ ∧ _ ∧ _
            first | exact ⟨k + 1, by omega, by omega, (by rw [pos_yes hy (.inl (cE_lt.2 (by omega)))]; exact KeepF.auto), Sub.autoD⟩ | exact ⟨k + 1, by omega, by omega, (by rw [pos_yes hy (.inr ⟨mt cE_lt.1 (by omega), by omega⟩)]; exact KeepF.auto), Sub.autoD⟩ | exact ⟨k + 1, by omega, by omega, (by rw [pos_no hy (mt cE_lt.1 (by omega)) (.inl (cE_lt.2 (by omega)))]; exact KeepF.auto), Sub.autoD⟩ | exact ⟨k + 1, by omega, by omega, (by rw [pos_no hy (mt cE_lt.1 (by omega)) (.inr (by omega))]; exact KeepF.auto), Sub.autoD⟩
      · refine sr_nil ?_
        refine aw_kp [0, 2, 3, 4, 5, 6, 26, 27, 28, 29] ?_
        refine aw_false rfl ?_
        refine aw_exit ?_
        show AW _ _ _ _ _ _ _
        refine aw_seq_region ?_
        have hpx := hst.place swoE hsr rfl hx (show xs.length ≤ k by omega)
        have hpx2 := get_lt hpx
        obtain ⟨bp, op_, hap, hcp⟩ := V2s.at_ _ _ hpx
        refine sr_mv ?_
        refine sr_mv ?_
        refine sr_rd (x_indexAddrN (i) Tryd.underlying24 sz30 rfl hax rfl (by omega) (by omega)) ?_
        refine sr_rd (x_loadN ag30 sz30 rfl (Cells.mono hcx (Sub.nil _)) rfl) ?_
        refine sr_new rfl (wtd_none rfl) rfl (x_alloc zr30 rfl) ?_
        intro r15_4 hr15_4 gr15_4
        refine sr_x0 rfl (wtd_none rfl) (x_store sz30 rfl rfl rfl rfl rfl Repl.auto Spl.auto) ?_
        refine sr_nil ?_
        refine aw_kp [0, 2, 3, 4, 5, 6, 7, 26, 27, 28, 29, 63, 64, 65, 66] ?_
        refine aw_seq_dr ⟨_, 20, 88, [[], [], [0, 1], [0, 1, 2], [], [0, 1, 2, 3, 4], [0, 1, 2, 3, 4, 5], [0, 1, 2, 3, 4, 5, 6], [0, 1, 2, 3, 4, 5, 6, 7], [0, 1, 2, 3, 4, 5, 6], [0, 1, 2, 3, 4, 5, 6, 9], [0, 1, 2, 3, 4, 5, 6], [0, 1, 2, 3, 4, 5, 6, 11], [0, 1, 2, 3, 4, 5, 6], [0, 1, 2, 3, 4, 5, 6, 13], [0, 1, 2, 3, 4, 5, 6], [0, 1, 2, 3, 4, 5, 6, 15], [0, 1, 2, 3, 4, 5, 6, 9, 10, 11, 12, 13, 14, 15, 16], [0, 1, 2, 3, 4, 5, 6, 7, 8, 9, 10, 11, 12, 13, 14, 15, 16, 17], [0, 1, 2, 3, 4, 5, 6, 7, 8, 9, 10, 11, 12, 13, 14, 15, 16, 17, 18]], [.light, .light, .light, .mem, .mem, .light, .light, .mem, .call, .light, .mem, .light, .mem, .light, .mem, .light, .mem, .light, .light, .light]⟩ (by kernel_rfl) rfl rfl mix ?_
        refine dr_l (x_move rfl) ?_
        refine dr_l (x_move rfl) ?_
        refine dr_l (x_indexAddrN ((pos cE xs x i k)) Tryd.underlying24 sz30 rfl hap rfl (by omega) (by omega)) ?_
        refine dr_mem0 rfl rfl (wtd_none rfl) (x_loadN ag30 sz30 rfl (Cells.mono hcp Sub.autoE) rfl) ?_
        refine dr_mem0 rfl rfl (wtd_none rfl) (x_loadN ag30 sz30 rfl (cells_ext mauto Ext.auto) rfl) ?_
        refine dr_cmp rfl rfl (wtd_none rfl) (x_neStruct Tryd.underlying30 ks30 rfl rfl rfl rfl rfl) (fun h8 => absurd h8 (by exact fun h => by rw [eqC_ent] at h; cases h)) (fun h8 => ?_)
        refine dr_l (x_move rfl) ?_
        refine dr_mem0 rfl rfl (wtd_yes rfl rfl rfl) (x_loadN ag30 sz30 rfl (cells_ext mauto Ext.auto) rfl) ?_
        refine dr_callq0 rfl rfl (wtd_yes rfl rfl rfl) (opS_F rfl rfl rfl rfl cl37 ((ereq_s x _))) (⟨_, rfl⟩) ?_
        rintro _ rfl
        refine dr_y (x_fieldAddr fd30_4 rfl) ?_
        refine dr_mem0 rfl rfl (wtd_yes rfl rfl rfl) (x_load ag3 rfl (cells_ext mauto Ext.auto)) ?_
        refine dr_y (x_fieldAddr fd30_3 rfl) ?_
        refine dr_mem0 rfl rfl (wtd_yes rfl rfl rfl) (x_load ag3 rfl (cells_ext mauto Ext.auto)) ?_
        refine dr_y (x_fieldAddr fd30_2 rfl) ?_
        refine dr_mem0 rfl rfl (wtd_yes rfl rfl rfl) (x_load ag2 rfl (cells_ext mauto Ext.auto)) ?_
        refine dr_y (x_fieldAddr fd30_5 rfl) ?_
        refine dr_mem0 rfl rfl (wtd_yes rfl rfl rfl) (x_load ag3 rfl (cells_ext mauto Ext.auto)) ?_
        refine dr_y (x_build zr35 rfl fl35 Parts.auto Fill.auto) ?_
        refine dr_cmp rfl rfl (wtd_yes rfl rfl rfl) (x_neStruct Tryd.underlying35 ks35 rfl rfl rfl rfl rfl) (fun h9 => absurd h9 (by exact fun h => Bool.noConfusion (((eqC_req (a := (⟨1, 0, x.user, x.width, x.limit, x.prio, false, 0, 0⟩ : Req)) (b := (⟨1, 0, x.user, x.width, x.limit, x.prio, false, 0, 0⟩ : Req))).2 rfl).symm.trans h))) (fun h9 => ?_)
        refine dr_l (x_pick_f rfl rfl rfl) ?_
        refine dr_nil0 ?_
        refine aw_kp [0, 2, 3, 4, 5, 6, 7, 26, 27, 28, 29, 63, 64, 65, 66, 67, 68, 69, 70, 71, 72, 73, 74, 75, 76, 77, 78, 79, 80, 81, 82, 83, 84, 85, 86] ?_
        refine aw_false rfl ?_
        refine aw_skip ?_
        show AW _ _ _ _ _ _ _
        refine aw_region ?_
        refine sr_mv ?_
        refine sr_rd (x_add' rfl rfl (i64w (by omega) (by omega))) ?_
        refine sr_as ?_
        refine sr_nil ?_
        show ∃ s', _ ∧ _ ∧ _ ∧ _
        exact ⟨i + 1, by omega, by omega, KeepF.auto, Sub.autoP⟩
    · refine sr_nil ?_
      refine aw_kp [0, 2, 3, 4, 20, 21, 22, 23] ?_
      refine aw_false rfl ?_
      refine aw_exit ?_
      show AW _ _ _ _ _ _ _
      refine aw_seq_region ?_
      refine sr_d rfl (wtd_none rfl) rfl (opS_call rfl rfl rfl rfl cl18 (awake27_s _)) ?_
      rintro _ H9 ⟨rfl, rfl⟩
      refine sr_as ?_
      refine sr_nil ?_
      refine aw_kp [2] ?_
      refine aw_ret ?_
      show ∃ v H2, ResV _ _ _ _ _ _ v ∧ Sub H2 _ ∧ _
      exact ⟨_, [], resV rfl (.cons rfl .nil), (Sub.nil _), rfl⟩
end
namespace SwfSortsRow
open Go.ChangeShapes Go.WideShapes Go.ChangeAt Go.RowKit
theorem own : ownKnob Tryd.prog.godebug = none := by kernel_rfl
theorem laidOut : laidOutB Tryd.prog = true := by kernel_rfl
def laid : List (String × DataW Unit) := [("unicode/utf8.acceptRanges", Rows.laid_unicode_utf8_acceptRanges), ("unicode/utf8.first", Rows.laid_unicode_utf8_first)]
set_option maxRecDepth 100000 in
theorem lifted (os : Os) (started : os.Started) (H : Type) (enc : TypeId × Value → H) :
    ReturnsInHanded {} Tryd.checked os 12 .any (fun w args => (Rows.swfSortsSpec.pre enc Tryd.prog Tryd.f12 [] false w args ∧ laidMetH Tryd.prog laid w) ∧ sizedMet enc Tryd.prog Tryd.f12 (OpenSpec.ofChange Rows.swfSortsSpec) false w args)
      (Rows.swfSortsSpec.post enc Tryd.prog Tryd.f12 false true false false) := by
  refine law_lifted_laid (C := Tryd.checked) (tb := 4) (laid := laid) own started (by kernel_rfl) Tryd.func12
    (ChangeSpec.witness_shaped (enc := enc) (C := Tryd.checked) (os := os) (X := fun w _ => laidMetH Tryd.prog laid w) false (World.laidAll Tryd.prog os laid) #[.slice none 0 0] 8 (World.laidAll_os _ _ _)
      (World.shaped_of_ZipB (by kernel_rfl) (by kernel_rfl)) (by kernel_rfl) (by kernel_rfl) (by kernel_rfl)
      (by rw [MakeChecks.laidMetH_plain _ _ _ (by kernel_rfl)]; exact laidMet_laidAll _ (by kernel_rfl) (by kernel_rfl)))
    (fun w => MakeChecks.laidMetH_plain _ _ _ (by kernel_rfl)) rfl Tryd.underlying4 rfl laidOut (by kernel_rfl) ?_ ?_
  · intro ds h
    match ds, h with
    | [a0], _ => rfl
  · intro W base args ds ps hval hA hlt hsz
    have hA' : DataW.TrodAll enc Tryd.prog W 0 (fun _ => true) true [24] args ds ps := hA
    clear hA
    obtain ⟨v0, vs0, d0, ds0, p0, q0, rfl, rfl, rfl, h0, r0⟩ := trodAll_cons hA'
    obtain ⟨rfl, rfl, rfl⟩ := trodAll_nil r0
    obtain ⟨a, cap, xs, rfl, hs, _⟩ := opn_slice Tryd.underlying24 cells30 (by decide) (fun fuel cs x h => read_Ent h) (hval 0 24 v0 rfl rfl) h0
    exact swfSorts_s a cap xs hs
theorem joined : joinedFacts Tryd.prog 12 Tryd.f12 Rows.swfSortsSpec Rows.swfSortsRow = true := by
  unfold joinedFacts
  rw [cutMay, cutLif, cutMk]
  kernel_rfl
theorem over : Rows.swfSortsRow.holds Tryd.pinned (OpenSpec.ofChange Rows.swfSortsSpec) :=
  OpenClaim.holds_of_wide 12 Tryd.f12 rfl rfl rfl rfl rfl rfl rfl ⟨rfl, rfl, rfl, rfl, rfl⟩ rfl rfl rfl rfl rfl (by kernel_rfl) Tryd.func12 joined
    (of_decide_eq_true (by kernel_rfl)) (by unfold Func.isWrapper; first | (rw [if_pos (by decide +kernel)]; kernel_rfl) | (rw [if_neg (by decide +kernel)]; exact ⟨rfl, rfl⟩))
    (fun os started H enc _ => lifted os started H enc)
theorem proved : Rows.SwfSortsCardSaid :=
  Claim7.holds_tied_plain_at .later [] [.data, .pinned] true (true, "426c9bee184f4b528ab0760080dc1cc7cd819b0490f5c9691bd34e83eb6dee88") false over (fun _ h => by cases h) (by kernel_rfl) (fun _ h => by cases h) swfSorts_row_tie rfl ⟨rfl, rfl⟩ (by kernel_rfl) rfl
    (fun f fn hf hfn => by
      obtain rfl : f = 12 := Option.some.inj ((show Tryd.prog.funcNamed "berthage/berthagelaw27.SwfSorts" = some 12 by kernel_rfl).symm.trans hf) |>.symm
      obtain rfl : fn = Tryd.f12 := (Option.some.inj (Tryd.func12.symm.trans hfn)).symm
      exact ⟨by kernel_rfl, fun j t ht => by
        have ht' : (#[24] : Array TypeId)[j]? = some t := ht
        have hm : t ∈ [24] := by simpa using Array.mem_of_getElem? ht'
        have hall : ([24].all fun u => !Tryd.prog.wantsStandIn u) = true := by kernel_rfl
        exact (show Tryd.prog.wantsStandIn t = false by simpa using List.all_eq_true.1 hall t hm)⟩)
    (by kernel_rfl)
#print axioms proved
end SwfSortsRow
end Go.Proofs.YtbcajgkaepihfaaDoor
