/- Any entries are told as a text, and those that may be are read again; no condition but that the listed variables lie as the program's text lays them. -/
import Derived.Test.YtbcajgkaepihfaaDoorSfe
import Derived.Test.YtbcajgkaepihfaaDoorSymLaid
import Derived.Test.YtbcajgkaepihfaaDoorRows
import Derived.Test.YtbcajgkaepihfaaDoorCards
import Derived.Test.YtbcajgkaepihfaaDoorTie
import Derived.Test.YtbcajgkaepihfaaDoorCut
import Derived.SevenTiedAt
namespace Go.Proofs.YtbcajgkaepihfaaDoor
open Go.Proofs.YtbcajgkaepihfaaDoor.Sym
open Go.RowKit (Below)
set_option linter.unusedVariables false
set_option linter.unusedSimpArgs false
theorem cells2 : Tryd.prog.cellsOf 2 = 1 := by kernel_rfl
theorem cells3 : Tryd.prog.cellsOf 3 = 1 := by kernel_rfl
theorem cells30 : Tryd.prog.cellsOf 30 = 6 := by kernel_rfl
theorem cl18 : Callable Tryd.prog 18 := ⟨Tryd.f18, Tryd.func18, by kernel_rfl, by kernel_rfl⟩
theorem cl20 : Callable Tryd.prog 20 := ⟨Tryd.f20, Tryd.func20, by kernel_rfl, by kernel_rfl⟩
theorem cl21 : Callable Tryd.prog 21 := ⟨Tryd.f21, Tryd.func21, by kernel_rfl, by kernel_rfl⟩
theorem cl31 : Callable Tryd.prog 31 := ⟨Tryd.f31, Tryd.func31, by kernel_rfl, by kernel_rfl⟩
section
variable {W0 : World}
set_option maxRecDepth 100000 in
theorem read_Ent {H : Type} {enc : TypeId × Value → H} {w : World} {base : Nat} {spare : Nat → Bool} {held : Bool} {fuel : Nat} {cs : List Value} {x : DataW H × List MemPlace} (h : DataW.trod enc Tryd.prog w base spare held fuel 30 cs = some x) : ∃ j : Ent, cs = j.cells ∧ j.Wf := by
  obtain ⟨hlen, n, hf⟩ := read_struct Tryd.underlying30 h
  rw [cells30] at hlen
  obtain ⟨a0, e0, l0, u0⟩ := read_int Tryd.underlying2 cells2 (hf 0 _ rfl)
  obtain ⟨a1, e1, l1, u1⟩ := read_int Tryd.underlying2 cells2 (hf 1 _ rfl)
  obtain ⟨a2, e2, l2, u2⟩ := read_int Tryd.underlying2 cells2 (hf 2 _ rfl)
  obtain ⟨a3, e3, l3, u3⟩ := read_int Tryd.underlying3 cells3 (hf 3 _ rfl)
  obtain ⟨a4, e4, l4, u4⟩ := read_int Tryd.underlying3 cells3 (hf 4 _ rfl)
  obtain ⟨a5, e5, l5, u5⟩ := read_int Tryd.underlying3 cells3 (hf 5 _ rfl)
  refine ⟨⟨a0, a1, a2, a3, a4, a5⟩, ?_, ⟨l0, u0, l1, u1, l2, u2, l3, u3, l4, u4, l5, u5⟩⟩
  apply List.ext_getElem?
  intro i
  match i with
  | 0 => exact e0
  | 1 => exact e1
  | 2 => exact e2
  | 3 => exact e3
  | 4 => exact e4
  | 5 => exact e5
  | i + 6 => rw [List.getElem?_eq_none (by omega), List.getElem?_eq_none (by simp)]
set_option maxRecDepth 100000 in
theorem open_Ent {H : Type} {enc : TypeId × Value → H} {w : World} {base b0 : Nat} {spare : Nat → Bool} {held : Bool} {v : Value} {d : DataW H} {p : List MemPlace} {r : Reach} (hv : Value.okWide Tryd.prog w r b0 30 v) (h : DataW.Trod enc Tryd.prog w base spare held 30 v d p) : ∃ j : Ent, v = j.v ∧ j.Wf := by
  obtain ⟨cs, rfl, _⟩ := Go.WideShapes.okWide_struct Tryd.underlying30 hv
  obtain ⟨fuel, hf⟩ := h
  obtain ⟨j, h1, h2⟩ := read_Ent hf
  refine ⟨j, ?_, h2⟩
  have : cs = j.cells.toArray := by apply Array.toList_inj.1; exact h1
  rw [this]
end

section
variable {W0 : World}
set_option maxRecDepth 100000 in
set_option maxHeartbeats 4000000 in
theorem swfTexts_s (sa : Option Addr) (scap : Nat) (l : List Ent) (hs0 : ∀ G, SlV W0 G 6 Ent.cells sa scap l) (hwf : ∀ x ∈ l, EWf x) (s0 : List UInt8) : AC Tryd.prog W0 7 [.slice sa l.length scap, .string (bs s0)] [] (fun v _ => v = .bool true) := by
  have hle0 := (hs0 []).le
  have hcb0 := (hs0 []).capb
  refine ac_of Tryd.func7 rfl rfl rfl ?_
  refine aw_seq_region ?_
  refine sr_as ?_
  refine sr_nil ?_
  refine aw_kp [0, 1, 4] ?_
  refine aw_join (ι := Unit) (fun _ => True) (fun _ => [(0, .slice sa (l.take 40).length scap), (1, .string (bs s0)), (4, .bool false)]) (fun _ => []) ?_ ?_
  · refine aw_seq_region ?_
    refine sr_mv ?_
    refine sr_rd (x_lenSlice Tryd.underlying24 rfl) ?_
    refine sr_c (x_gt rfl rfl) (fun h1 => ?_) (fun h1 => ?_)
    · refine sr_nil ?_
      refine aw_kp [0, 1, 4, 19] ?_
      refine aw_true rfl ?_
      refine aw_region ?_
      refine sr_mv ?_
      refine sr_rd (x_sliceHi Tryd.underlying24 sz30 rfl rfl (by omega) (by omega)) ?_
      refine sr_as ?_
      refine sr_nil ?_
      show ∃ s', _ ∧ _ ∧ _
      exact ⟨(), trivial, (by first | (rw [List.length_take, Nat.min_eq_left (by omega)]; exact KeepF.auto) | (rw [List.length_take, Nat.min_eq_right (by omega)]; exact KeepF.auto)), Sub.autoP⟩
    · refine sr_nil ?_
      refine aw_kp [0, 1, 4, 19] ?_
      refine aw_false rfl ?_
      refine aw_skip ?_
      show ∃ s', _ ∧ _ ∧ _
      exact ⟨(), trivial, (by first | (rw [List.length_take, Nat.min_eq_left (by omega)]; exact KeepF.auto) | (rw [List.length_take, Nat.min_eq_right (by omega)]; exact KeepF.auto)), Sub.autoP⟩
  · intro _ _
    obtain ⟨xs, hxs⟩ : ∃ xs, xs = l.take 40 := ⟨_, rfl⟩
    have hs : ∀ G, SlV W0 G 6 Ent.cells sa scap xs := fun G => hxs ▸ (hs0 G).take 40
    have hx60 : xs.length ≤ 40 := by rw [hxs, List.length_take]; omega
    have hwx : ∀ x ∈ xs, EWf x := fun x hx => hwf x (List.mem_of_mem_take (hxs ▸ hx))
    rw [← hxs]
    have hle := (hs []).le
    have hcb := (hs []).capb
    refine aw_join (ι := Unit) (fun _ => True) (fun _ => [(0, .slice sa xs.length scap), (1, .string (bs (s0.take 100))), (4, .bool false)]) (fun _ => []) ?_ ?_
    · refine aw_seq_region ?_
      refine sr_mv ?_
      refine sr_rd (x_lenB Tryd.underlying9 rfl) ?_
      refine sr_c (x_gt rfl rfl) (fun h2 => ?_) (fun h2 => ?_)
      · refine sr_nil ?_
        refine aw_kp [0, 1, 4, 24] ?_
        refine aw_true rfl ?_
        refine aw_region ?_
        refine sr_mv ?_
        refine sr_rd (x_sliceHiB (100) Tryd.underlying9 rfl rfl (by first | rfl | omega) (by omega)) ?_
        refine sr_as ?_
        refine sr_nil ?_
        show ∃ s', _ ∧ _ ∧ _
        exact ⟨(), trivial, (by first | exact KeepF.auto | (rw [List.take_of_length_le (by omega)]; exact KeepF.auto)), Sub.autoP⟩
      · refine sr_nil ?_
        refine aw_kp [0, 1, 4, 24] ?_
        refine aw_false rfl ?_
        refine aw_skip ?_
        show ∃ s', _ ∧ _ ∧ _
        exact ⟨(), trivial, (by first | exact KeepF.auto | (rw [List.take_of_length_le (by omega)]; exact KeepF.auto)), Sub.autoP⟩
    · intro _ _
      obtain ⟨r, hre⟩ : ∃ r, r = s0.take 100 := ⟨_, rfl⟩
      have hsl : r.length ≤ 100 := by rw [hre, List.length_take]; omega
      rw [← hre]
      refine aw_seq ?_
      refine aw_seq_region ?_
      refine sr_as ?_
      refine sr_nil ?_
      refine aw_kp [0, 1, 4, 5] ?_
      refine aw_block ?_
      refine aw_loop (ι := Nat) (fun k => k ≤ r.length ∧ (10 : UInt8) ∉ r.take k) (fun k => [(0, .slice sa xs.length scap), (1, .string (bs r)), (4, .bool false), (5, .int .i64 k)]) (fun _ => []) (fun k => r.length - k) 0 (⟨Nat.zero_le _, by simp⟩) KeepF.auto Sub.autoP ?_
      intro k hk
      refine aw_seq ?_
      refine aw_seq_region ?_
      refine sr_mv ?_
      refine sr_mv ?_
      refine sr_rd (x_lenB Tryd.underlying9 rfl) ?_
      refine sr_c (x_lt rfl rfl) (fun h3 => ?_) (fun h3 => ?_)
      · refine sr_nil ?_
        refine aw_kp [0, 1, 4, 5, 27, 28, 29, 30] ?_
        refine aw_true rfl ?_
        refine aw_skip ?_
        show AW _ _ _ _ _ _ _
        refine aw_seq ?_
        refine aw_block ?_
        refine aw_seq_region ?_
        obtain ⟨x, hx⟩ := get_ex (show k < r.length by omega)
        refine sr_mv ?_
        refine sr_mv ?_
        refine sr_rd (x_indexB k Tryd.underlying9 rfl rfl (by first | rfl | omega) hx) ?_
        refine sr_c (x_eq rfl rfl) (fun h4 => ?_) (fun h4 => ?_)
        · refine sr_nil ?_
          refine aw_kp [0, 1, 4, 5, 27, 28, 29, 30, 33, 34, 35, 36] ?_
          refine aw_true rfl ?_
          refine aw_seq_region ?_
          refine sr_d rfl (wtd_none rfl) rfl (opS_call rfl rfl rfl rfl cl18 (awake27_s _)) ?_
          rintro _ H9 ⟨rfl, rfl⟩
          refine sr_as ?_
          refine sr_nil ?_
          refine aw_kp [0, 1, 4, 5, 27, 28, 29, 30, 33, 34, 35, 36, 37] ?_
          refine aw_ret ?_
          show ∃ v H2, ResV _ _ _ _ _ _ v ∧ Sub H2 _ ∧ _
          exact ⟨_, [], resV rfl (.cons rfl .nil), (Sub.nil _), rfl⟩
        · refine sr_nil ?_
          refine aw_kp [0, 1, 4, 5, 27, 28, 29, 30, 33, 34, 35, 36] ?_
          refine aw_false rfl ?_
          refine aw_skip ?_
          show AW _ _ _ _ _ _ _
          refine aw_region ?_
          refine sr_mv ?_
          refine sr_rd (x_add' rfl rfl (i64w (by omega) (by omega))) ?_
          refine sr_as ?_
          refine sr_nil ?_
          show ∃ s', _ ∧ _ ∧ _ ∧ _
          exact ⟨k + 1, ⟨by omega, (by rw [takeS hx, List.mem_append, not_or]; exact ⟨hk.2, by rw [List.mem_singleton]; intro q; have q2 : x.toNat = 10 := (by rw [← q]; rfl); omega⟩)⟩, by omega, KeepF.auto, Sub.autoP⟩
      · refine sr_nil ?_
        refine aw_kp [0, 1, 4, 5, 27, 28, 29, 30] ?_
        refine aw_false rfl ?_
        refine aw_exit ?_
        show AW _ _ _ _ _ _ _
        refine aw_seq_region ?_
        have hs10 : (10 : UInt8) ∉ r := by have := hk.2; rwa [List.take_of_length_le (by omega)] at this
        refine sr_as ?_
        refine sr_as ?_
        refine sr_nil ?_
        refine aw_kp [0, 1, 4, 6, 7] ?_
        refine aw_seq_region ?_
        refine sr_as ?_
        refine sr_nil ?_
        refine aw_kp [0, 1, 4, 6, 7, 8] ?_
        refine aw_seq ?_
        refine aw_seq_region ?_
        refine sr_as ?_
        refine sr_nil ?_
        refine aw_kp [0, 1, 4, 6, 7, 8, 9] ?_
        refine aw_block ?_
        refine aw_loop (ι := TxG) (fun s => s.k ≤ xs.length ∧ OwnVec 6 30 s.sl (okE (xs.take s.k)).length ((okE (xs.take s.k)).flatMap Ent.cells) s.E) (fun s => [(0, .slice sa xs.length scap), (1, .string (bs r)), (4, .bool false), (6, .string (bs (txtE (okE (xs.take s.k))))), (7, .string (bs (moreE r (okE (xs.take s.k))))), (8, s.sl), (9, .int .i64 s.k)]) (fun s => s.E ++ []) (fun s => xs.length - s.k) ⟨0, .slice none 0 0, []⟩ (⟨Nat.zero_le _, .nil⟩) KeepF.auto Sub.autoP ?_
        intro s hs9
        obtain ⟨k, sl, EW⟩ := s
        dsimp only at hs9 ⊢
        obtain ⟨hk9, VW⟩ := hs9
        obtain ⟨a1, c1, rfl⟩ := VW.isSl
        refine aw_seq ?_
        refine aw_seq_region ?_
        refine sr_mv ?_
        refine sr_mv ?_
        refine sr_rd (x_lenSlice Tryd.underlying24 rfl) ?_
        refine sr_c (x_lt rfl rfl) (fun h5 => ?_) (fun h5 => ?_)
        · refine sr_nil ?_
          refine aw_kp [0, 1, 4, 6, 7, 8, 9, 38, 39, 40, 41] ?_
          refine aw_true rfl ?_
          refine aw_skip ?_
          show AW _ _ _ _ _ _ _
          refine aw_seq ?_
          refine aw_block ?_
          refine aw_seq ?_
          refine aw_seq_dr ⟨_, 24, 171, [[], [], [0, 1], [0, 1, 2], [0, 1, 2, 3], [], [], [5, 6], [5, 6, 7], [0, 1, 2, 3, 4, 5, 6, 7, 8], [0, 1, 2, 3, 4, 5, 6, 7, 8, 9], [0, 1, 2, 3, 4, 5, 6, 7, 8, 9, 10], [0, 1, 2, 3, 4, 5, 6, 7, 8, 9, 10, 11], [0, 1, 2, 3, 4, 5, 6, 7, 8, 9, 10, 11], [0, 1, 2, 3, 4, 5, 6, 7, 8, 9, 10, 11, 12, 13], [0, 1, 2, 3, 4, 5, 6, 7, 8, 9, 10, 11, 12, 13, 14], [0, 1, 2, 3, 4, 5, 6, 7, 8, 9, 10, 11, 12, 13, 14, 15], [0, 1, 2, 3, 4, 5, 6, 7, 8, 9, 10, 11], [0, 1, 2, 3, 4, 5, 6, 7, 8, 9, 10, 11], [0, 1, 2, 3, 4, 5, 6, 7, 8, 9, 10, 11, 17, 18], [0, 1, 2, 3, 4, 5, 6, 7, 8, 9, 10, 11, 17, 18, 19], [0, 1, 2, 3, 4, 5, 6, 7, 8, 9, 10, 11, 12, 13, 14, 15, 16, 17, 18, 19, 20], [0, 1, 2, 3, 4, 5, 6, 7, 8, 9, 10, 11, 12, 13, 14, 15, 16, 17, 18, 19, 20, 21], [0, 1, 2, 3, 4, 5, 6, 7, 8, 9, 10, 11, 12, 13, 14, 15, 16, 17, 18, 19, 20, 21, 22]], [.light, .light, .light, .mem, .call, .light, .light, .light, .mem, .call, .light, .light, .light, .light, .light, .mem, .call, .light, .light, .light, .mem, .call, .light, .light]⟩ (by kernel_rfl) rfl rfl mix ?_
          obtain ⟨x, hx⟩ := get_ex (show k < xs.length by omega)
          obtain ⟨bx, ox, hax, hcx⟩ := (hs []).at_ k _ hx
          refine dr_l (x_move rfl) ?_
          refine dr_l (x_move rfl) ?_
          refine dr_l (x_indexAddrN (k) Tryd.underlying24 sz30 rfl hax rfl (by omega) (by omega)) ?_
          refine dr_mem0 rfl rfl (wtd_none rfl) (x_loadN ag30 sz30 rfl (Cells.mono hcx (Sub.nil _)) rfl) ?_
          refine dr_callq0 rfl rfl (wtd_none rfl) (opS_F rfl rfl rfl rfl cl29 ((eright_s x _))) (⟨_, rfl⟩) ?_
          rintro _ rfl
          refine dr_l (x_move rfl) ?_
          refine dr_l (x_move rfl) ?_
          refine dr_l (x_indexAddrN (k) Tryd.underlying24 sz30 rfl hax rfl (by omega) (by omega)) ?_
          refine dr_mem0 rfl rfl (wtd_none rfl) (x_loadN ag30 sz30 rfl (Cells.mono hcx (Sub.nil _)) rfl) ?_
          refine dr_callq0 rfl rfl (wtd_none rfl) (opS_F rfl rfl rfl rfl cl20 ((leright_s x _))) (⟨_, rfl⟩) ?_
          rintro _ rfl
          refine dr_l (x_cast (u := .bool false) (x_neb Tryd.underlying4 rfl rfl) (by simp)) ?_
          refine dr_l (x_move rfl) ?_
          refine dr_y (x_move rfl) ?_
          refine dr_y (x_move rfl) ?_
          refine dr_y (x_indexAddrN (k) Tryd.underlying24 sz30 rfl hax rfl (by omega) (by omega)) ?_
          refine dr_mem0 rfl rfl (wtd_yes rfl rfl rfl) (x_loadN ag30 sz30 rfl (Cells.mono hcx (Sub.nil _)) rfl) ?_
          refine dr_callq0 rfl rfl (wtd_yes rfl rfl rfl) (opS_F rfl rfl rfl rfl cl30 ((eline_s x (hwx x (List.mem_of_getElem? hx)) _))) (⟨_, rfl⟩) ?_
          rintro _ rfl
          refine dr_y (x_move rfl) ?_
          refine dr_y (x_move rfl) ?_
          refine dr_y (x_indexAddrN (k) Tryd.underlying24 sz30 rfl hax rfl (by omega) (by omega)) ?_
          refine dr_mem0 rfl rfl (wtd_yes rfl rfl rfl) (x_loadN ag30 sz30 rfl (Cells.mono hcx (Sub.nil _)) rfl) ?_
          refine dr_callq0 rfl rfl (wtd_yes rfl rfl rfl) (opS_F rfl rfl rfl rfl cl21 ((elline_s x (hwx x (List.mem_of_getElem? hx)) _))) (⟨_, rfl⟩) ?_
          rintro _ rfl
          refine dr_cmp rfl rfl (wtd_yes rfl rfl rfl) (x_neB rfl rfl) (fun h6 => absurd h6 (by exact fun h => h rfl)) (fun h6 => ?_)
          refine dr_l (x_pick_f rfl rfl rfl) ?_
          refine dr_nil0 ?_
          refine aw_kp [0, 1, 4, 6, 7, 8, 9, 38, 39, 40, 41, 44, 45, 46, 47, 48, 49, 50, 51, 52, 53, 54, 55, 56, 57, 58, 59, 60, 61, 62, 63, 64, 65, 66, 67] ?_
          refine aw_false rfl ?_
          refine aw_skip ?_
          show AW _ _ _ _ _ _ _
          refine aw_seq_region ?_
          refine sr_mv ?_
          refine sr_mv ?_
          refine sr_rd (x_indexAddrN (k) Tryd.underlying24 sz30 rfl hax rfl (by omega) (by omega)) ?_
          refine sr_rd (x_loadN ag30 sz30 rfl (Cells.mono hcx (Sub.nil _)) rfl) ?_
          refine sr_d rfl (wtd_none rfl) rfl (opS_call rfl rfl rfl rfl cl20 (leright_s x _)) ?_
          rintro _ H9 ⟨rfl, rfl⟩
          generalize hd : decide (ERight x) = d1
          cases d1
          · refine sr_nil ?_
            refine aw_kp [0, 1, 4, 6, 7, 8, 9, 38, 39, 40, 41, 44, 45, 46, 47, 48, 49, 50, 51, 52, 53, 54, 55, 56, 57, 58, 59, 60, 61, 62, 63, 64, 65, 66, 67, 68, 69, 70, 71, 72] ?_
            refine aw_false rfl ?_
            refine aw_skip ?_
            show AW _ _ _ _ _ _ _
            refine aw_region ?_
            refine sr_mv ?_
            refine sr_rd (x_add' rfl rfl (i64w (by omega) (by omega))) ?_
            refine sr_as ?_
            refine sr_nil ?_
            show ∃ s', _ ∧ _ ∧ _ ∧ _
            first | exact ⟨⟨k + 1, _, E99⟩, ⟨by dsimp only; omega, (by dsimp only; rw [okE_yes hx (of_decide_eq_true hd)]; have h9 := hV99.snocS; rw [List.length_append] at h9 ⊢; exact h9)⟩, by dsimp only; omega, (by dsimp only; rw [okE_yes hx (of_decide_eq_true hd), txtE_snoc, moreE_snoc]; exact KeepF.auto), Sub.autoD⟩ | exact ⟨⟨k + 1, _, EW⟩, ⟨by dsimp only; omega, (by dsimp only; rw [okE_no hx (of_decide_eq_false hd)]; exact VW)⟩, by dsimp only; omega, (by dsimp only; rw [okE_no hx (of_decide_eq_false hd)]; exact KeepF.auto), Sub.autoD⟩
          · refine sr_nil ?_
            refine aw_kp [0, 1, 4, 6, 7, 8, 9, 38, 39, 40, 41, 44, 45, 46, 47, 48, 49, 50, 51, 52, 53, 54, 55, 56, 57, 58, 59, 60, 61, 62, 63, 64, 65, 66, 67, 68, 69, 70, 71, 72] ?_
            refine aw_true rfl ?_
            refine aw_seq_region ?_
            have htl := txtE_len (es := okE (xs.take k)) okE_all
            have hml := moreE_len (r := r) (es := okE (xs.take k)) okE_all
            have hol := okE_len2 (xs := xs) (k := k)
            have hell := el_len (ewf_of (of_decide_eq_true hd))
            have hmm : (129 + r.length) * (okE (xs.take k)).length ≤ 229 * 40 := Nat.mul_le_mul (by omega) (by omega)
            refine sr_mv ?_
            refine sr_mv ?_
            refine sr_mv ?_
            refine sr_rd (x_indexAddrN (k) Tryd.underlying24 sz30 rfl hax rfl (by omega) (by omega)) ?_
            refine sr_rd (x_loadN ag30 sz30 rfl (Cells.mono hcx (Sub.nil _)) rfl) ?_
            refine sr_d rfl (wtd_none rfl) rfl (opS_call rfl rfl rfl rfl cl21 (elline_s x (hwx x (List.mem_of_getElem? hx)) _)) ?_
            rintro _ H9 ⟨rfl, rfl⟩
            refine sr_rd (x_catB rfl rfl (by omega)) ?_
            refine sr_rd (x_catB rfl rfl (by first | omega | (simp only [List.length_append, List.length_cons, List.length_nil]; omega))) ?_
            refine sr_as ?_
            refine sr_nil ?_
            refine aw_kp [0, 1, 4, 6, 7, 8, 9, 38, 39, 40, 41, 44, 45, 46, 47, 48, 49, 50, 51, 52, 53, 54, 55, 56, 57, 58, 59, 60, 61, 62, 63, 64, 65, 66, 67, 68, 69, 70, 71, 72, 73, 74, 75, 76, 77, 78, 79, 80] ?_
            refine aw_seq_region ?_
            refine sr_mv ?_
            refine sr_rd (x_catB rfl rfl (by first | omega | (simp only [List.length_append, List.length_cons, List.length_nil]; omega))) ?_
            refine sr_mv ?_
            refine sr_rd (x_catB rfl rfl (by first | omega | (simp only [List.length_append, List.length_cons, List.length_nil]; omega))) ?_
            refine sr_rd (x_catB rfl rfl (by first | omega | (simp only [List.length_append, List.length_cons, List.length_nil]; omega))) ?_
            refine sr_mv ?_
            refine sr_mv ?_
            refine sr_rd (x_indexAddrN (k) Tryd.underlying24 sz30 rfl hax rfl (by omega) (by omega)) ?_
            refine sr_rd (x_loadN ag30 sz30 rfl (Cells.mono hcx (Sub.nil _)) rfl) ?_
            refine sr_d rfl (wtd_none rfl) rfl (opS_call rfl rfl rfl rfl cl21 (elline_s x (hwx x (List.mem_of_getElem? hx)) _)) ?_
            rintro _ H9 ⟨rfl, rfl⟩
            refine sr_rd (x_catB rfl rfl (by first | omega | (simp only [List.length_append, List.length_cons, List.length_nil]; omega))) ?_
            refine sr_rd (x_catB rfl rfl (by first | omega | (simp only [List.length_append, List.length_cons, List.length_nil]; omega))) ?_
            refine sr_as ?_
            refine sr_nil ?_
            refine aw_kp [0, 1, 4, 6, 7, 8, 9, 38, 39, 40, 41, 44, 45, 46, 47, 48, 49, 50, 51, 52, 53, 54, 55, 56, 57, 58, 59, 60, 61, 62, 63, 64, 65, 66, 67, 68, 69, 70, 71, 72, 73, 74, 75, 76, 77, 78, 79, 80, 81, 82, 83, 84, 85, 86, 87, 88, 89, 90, 91, 92] ?_
            refine aw_region ?_
            refine sr_mv ?_
            refine sr_mv ?_
            refine sr_mv ?_
            refine sr_rd (x_indexAddrN (k) Tryd.underlying24 sz30 rfl hax rfl (by omega) (by omega)) ?_
            refine sr_rd (x_loadN ag30 sz30 rfl (Cells.mono hcx (Sub.nil _)) rfl) ?_
            refine sr_new rfl (wtd_none rfl) rfl (x_buildSlice Tryd.underlying24 sz30 zr30 rfl rfl rfl rfl Parts.auto Fill.auto) ?_
            intro r20_5 hr20_5 gr20_5
            refine sr_d rfl (wtd_none rfl) rfl (opS_append (G := []) (N := x.cells) (m := 1) Tryd.underlying24 sz30 zr30 rfl by30 rfl rfl VW Sub.autoP (.inr ⟨_, _, rfl, (cells_ext mauto Ext.auto)⟩) (rfl) rfl (by omega) (by omega)) ?_
            rintro v99 _ ⟨E99, hV99, rfl⟩
            obtain ⟨a99, cap99, rfl⟩ := hV99.isSl
            refine sr_as ?_
            refine sr_nil ?_
            show AW _ _ _ _ _ _ _
            refine aw_region ?_
            refine sr_mv ?_
            refine sr_rd (x_add' rfl rfl (i64w (by omega) (by omega))) ?_
            refine sr_as ?_
            refine sr_nil ?_
            show ∃ s', _ ∧ _ ∧ _ ∧ _
            first | exact ⟨⟨k + 1, _, E99⟩, ⟨by dsimp only; omega, (by dsimp only; rw [okE_yes hx (of_decide_eq_true hd)]; have h9 := hV99.snocS; rw [List.length_append] at h9 ⊢; exact h9)⟩, by dsimp only; omega, (by dsimp only; rw [okE_yes hx (of_decide_eq_true hd), txtE_snoc, moreE_snoc]; exact KeepF.auto), Sub.autoD⟩ | exact ⟨⟨k + 1, _, EW⟩, ⟨by dsimp only; omega, (by dsimp only; rw [okE_no hx (of_decide_eq_false hd)]; exact VW)⟩, by dsimp only; omega, (by dsimp only; rw [okE_no hx (of_decide_eq_false hd)]; exact KeepF.auto), Sub.autoD⟩
        · refine sr_nil ?_
          refine aw_kp [0, 1, 4, 6, 7, 8, 9, 38, 39, 40, 41] ?_
          refine aw_false rfl ?_
          refine aw_exit ?_
          show AW _ _ _ _ _ _ _
          refine aw_seq ?_
          refine aw_seq_region ?_
          have htl := txtE_len (es := okE xs) okE_all
          have hml := moreE_len (r := r) (es := okE xs) okE_all
          have hol := okE_len (xs := xs)
          have hmm : (129 + r.length) * (okE xs).length ≤ 229 * 40 := Nat.mul_le_mul (by omega) (by omega)
          rw [List.take_of_length_le (show xs.length ≤ k by omega)] at VW ⊢
          refine sr_mv ?_
          refine sr_d rfl (wtd_none rfl) rfl (opS_call rfl rfl rfl rfl cl31 (etext_s sa scap xs _ (hs _) (by omega))) ?_
          rintro _ H9 ⟨rfl, rfl⟩
          refine sr_mv ?_
          refine sr_c (x_neB rfl rfl) (fun h7 => absurd h7 (by exact fun h => h rfl)) (fun h7 => ?_)
          refine sr_nil ?_
          refine aw_kp [4, 6, 7, 8, 103] ?_
          refine aw_false rfl ?_
          refine aw_skip ?_
          show AW _ _ _ _ _ _ _
          refine aw_seq_region ?_
          refine sr_mv ?_
          refine sr_d rfl (wtd_none rfl) rfl (opS_call rfl rfl rfl rfl cl19 (sread_s (txtE (okE xs)) (by omega) _)) ?_
          rintro _ _ ⟨a9, c9, E9, rfl, V9, rfl⟩
          rw [rd_txt okE_all (by omega)] at V9 ⊢
          refine sr_mv ?_
          refine sr_rd (x_extract rfl rfl) ?_
          refine sr_rd (x_extract rfl rfl) ?_
          refine sr_rd (x_extract rfl rfl) ?_
          refine sr_as ?_
          refine sr_as ?_
          refine sr_as ?_
          refine sr_nil ?_
          refine aw_kp [4, 7, 8, 10, 11, 12] ?_
          refine aw_seq_region ?_
          refine sr_mv ?_
          refine sr_d rfl (wtd_none rfl) rfl (opS_call rfl rfl rfl rfl cl19 (sread_s (moreE r (okE xs)) (by omega) _)) ?_
          rintro _ _ ⟨a8, c8, E8, rfl, V8, rfl⟩
          rw [rd_more hs10 okE_all (by omega)] at V8 ⊢
          refine sr_mv ?_
          refine sr_rd (x_extract rfl rfl) ?_
          refine sr_rd (x_extract rfl rfl) ?_
          refine sr_rd (x_extract rfl rfl) ?_
          refine sr_as ?_
          refine sr_as ?_
          refine sr_as ?_
          refine sr_nil ?_
          refine aw_kp [4, 8, 10, 11, 12, 13, 14, 15] ?_
          refine aw_seq ?_
          refine aw_seq_region ?_
          refine sr_mv ?_
          refine sr_c (x_ne rfl rfl) (fun h8 => absurd h8 (by exact fun h => h rfl)) (fun h8 => ?_)
          refine sr_mv ?_
          refine sr_ry (x_move rfl) ?_
          refine sr_cy (x_ne rfl rfl) (fun h9 => absurd h9 (by exact fun h => h rfl)) (fun h9 => ?_)
          refine sr_rd (x_pick_f rfl rfl rfl) ?_
          refine sr_mv ?_
          refine sr_ry (x_move rfl) ?_
          refine sr_cy (x_ne rfl rfl) (fun h10 => absurd h10 (by exact fun h => h rfl)) (fun h10 => ?_)
          refine sr_rd (x_pick_f rfl rfl rfl) ?_
          refine sr_mv ?_
          refine sr_ry (x_move rfl) ?_
          refine sr_cy (x_ne rfl rfl) (fun h11 => absurd h11 (by exact fun h => h rfl)) (fun h11 => ?_)
          refine sr_rd (x_pick_f rfl rfl rfl) ?_
          refine sr_mv ?_
          refine sr_ry (x_move rfl) ?_
          refine sr_ry (x_lenSlice Tryd.underlying24 rfl) ?_
          refine sr_ry (x_move rfl) ?_
          refine sr_ry (x_lenSlice Tryd.underlying24 rfl) ?_
          refine sr_cy (x_ne rfl rfl) (fun h12 => absurd h12 (by exact fun h => h rfl)) (fun h12 => ?_)
          refine sr_rd (x_pick_f rfl rfl rfl) ?_
          refine sr_mv ?_
          refine sr_ry (x_move rfl) ?_
          refine sr_ry (x_lenSlice Tryd.underlying24 rfl) ?_
          refine sr_ry (x_move rfl) ?_
          refine sr_ry (x_lenSlice Tryd.underlying24 rfl) ?_
          refine sr_cy (x_ne rfl rfl) (fun h13 => absurd h13 (by exact fun h => h rfl)) (fun h13 => ?_)
          refine sr_rd (x_pick_f rfl rfl rfl) ?_
          refine sr_nil ?_
          refine aw_kp [4, 8, 10, 13, 143] ?_
          refine aw_false rfl ?_
          refine aw_skip ?_
          show AW _ _ _ _ _ _ _
          refine aw_seq ?_
          refine aw_seq_region ?_
          have hsW := VW.slv' (W0 := W0) (xs := okE xs) (fun _ => rfl) rfl (Sub.refl _)
          have hsX := V9.slv' (W0 := W0) (xs := okE xs) (fun _ => rfl) rfl (Sub.refl _)
          have hsY := V8.slv' (W0 := W0) (xs := okE xs) (fun _ => rfl) rfl (Sub.refl _)
          have hlW := hsW.le
          have hlX := hsX.le
          have hlY := hsY.le
          have hbW := hsW.capb
          have hbX := hsX.capb
          have hbY := hsY.capb
          refine sr_as ?_
          refine sr_nil ?_
          refine aw_kp [4, 8, 10, 13, 16] ?_
          refine aw_block ?_
          refine aw_loop (ι := Nat) (fun i => i ≤ (okE xs).length) (fun i => [(4, .bool false), (8, .slice a1 (okE xs).length c1), (10, .slice a9 (okE xs).length c9), (13, .slice a8 (okE xs).length c8), (16, .int .i64 i)]) (fun _ => E8 ++ (E9 ++ (EW ++ []))) (fun i => (okE xs).length - i) 0 (Nat.zero_le _) KeepF.auto Sub.autoP ?_
          intro i hi
          refine aw_seq ?_
          refine aw_seq_region ?_
          refine sr_mv ?_
          refine sr_mv ?_
          refine sr_rd (x_lenSlice Tryd.underlying24 rfl) ?_
          refine sr_c (x_lt rfl rfl) (fun h14 => ?_) (fun h14 => ?_)
          · refine sr_nil ?_
            refine aw_kp [4, 8, 10, 13, 16, 144, 145, 146, 147] ?_
            refine aw_true rfl ?_
            refine aw_skip ?_
            show AW _ _ _ _ _ _ _
            refine aw_seq ?_
            refine aw_block ?_
            refine aw_seq_dr ⟨_, 20, 171, [[], [], [0, 1], [0, 1, 2], [], [], [4, 5], [4, 5, 6], [0, 1, 2, 3, 4, 5, 6, 7], [0, 1, 2, 3, 4, 5, 6, 7, 8], [0, 1, 2, 3, 4, 5, 6, 7, 8, 9], [0, 1, 2, 3, 4, 5, 6, 7, 8, 9], [0, 1, 2, 3, 4, 5, 6, 7, 8, 9, 10, 11], [0, 1, 2, 3, 4, 5, 6, 7, 8, 9, 10, 11, 12], [0, 1, 2, 3, 4, 5, 6, 7, 8, 9], [0, 1, 2, 3, 4, 5, 6, 7, 8, 9], [0, 1, 2, 3, 4, 5, 6, 7, 8, 9, 14, 15], [0, 1, 2, 3, 4, 5, 6, 7, 8, 9, 14, 15, 16], [0, 1, 2, 3, 4, 5, 6, 7, 8, 9, 10, 11, 12, 13, 14, 15, 16, 17], [0, 1, 2, 3, 4, 5, 6, 7, 8, 9, 10, 11, 12, 13, 14, 15, 16, 17, 18]], [.light, .light, .light, .mem, .light, .light, .light, .mem, .light, .light, .light, .light, .light, .mem, .light, .light, .light, .mem, .light, .light]⟩ (by kernel_rfl) rfl rfl mix ?_
            obtain ⟨y, hy⟩ := get_ex (show i < (okE xs).length by omega)
            obtain ⟨bw, ow, haw, hcw⟩ := hsW.at_ i _ hy
            obtain ⟨b9, o9, ha9, hc9⟩ := hsX.at_ i _ hy
            obtain ⟨b8, o8, ha8, hc8⟩ := hsY.at_ i _ hy
            refine dr_l (x_move rfl) ?_
            refine dr_l (x_move rfl) ?_
            refine dr_l (x_indexAddrN (i) Tryd.underlying24 sz30 rfl ha9 rfl (by omega) (by omega)) ?_
            refine dr_mem0 rfl rfl (wtd_none rfl) (x_loadN ag30 sz30 rfl (Cells.mono hc9 Sub.autoE) rfl) ?_
            refine dr_l (x_move rfl) ?_
            refine dr_l (x_move rfl) ?_
            refine dr_l (x_indexAddrN (i) Tryd.underlying24 sz30 rfl haw rfl (by omega) (by omega)) ?_
            refine dr_mem0 rfl rfl (wtd_none rfl) (x_loadN ag30 sz30 rfl (Cells.mono hcw Sub.autoE) rfl) ?_
            refine dr_cmp rfl rfl (wtd_none rfl) (x_neStruct Tryd.underlying30 ks30 rfl rfl rfl rfl rfl) (fun h15 => absurd h15 (by exact fun h => by rw [eqC_ent] at h; cases h)) (fun h15 => ?_)
            refine dr_l (x_move rfl) ?_
            refine dr_y (x_move rfl) ?_
            refine dr_y (x_move rfl) ?_
            refine dr_y (x_indexAddrN (i) Tryd.underlying24 sz30 rfl ha8 rfl (by omega) (by omega)) ?_
            refine dr_mem0 rfl rfl (wtd_yes rfl rfl rfl) (x_loadN ag30 sz30 rfl (Cells.mono hc8 Sub.autoE) rfl) ?_
            refine dr_y (x_move rfl) ?_
            refine dr_y (x_move rfl) ?_
            refine dr_y (x_indexAddrN (i) Tryd.underlying24 sz30 rfl haw rfl (by omega) (by omega)) ?_
            refine dr_mem0 rfl rfl (wtd_yes rfl rfl rfl) (x_loadN ag30 sz30 rfl (Cells.mono hcw Sub.autoE) rfl) ?_
            refine dr_cmp rfl rfl (wtd_yes rfl rfl rfl) (x_neStruct Tryd.underlying30 ks30 rfl rfl rfl rfl rfl) (fun h16 => absurd h16 (by exact fun h => by rw [eqC_ent] at h; cases h)) (fun h16 => ?_)
            refine dr_l (x_pick_f rfl rfl rfl) ?_
            refine dr_nil0 ?_
            refine aw_kp [4, 8, 10, 13, 16, 144, 145, 146, 147, 150, 151, 152, 153, 154, 155, 156, 157, 158, 159, 160, 161, 162, 163, 164, 165, 166, 167, 168, 169] ?_
            refine aw_false rfl ?_
            refine aw_skip ?_
            show AW _ _ _ _ _ _ _
            refine aw_region ?_
            refine sr_mv ?_
            refine sr_rd (x_add' rfl rfl (i64w (by omega) (by omega))) ?_
            refine sr_as ?_
            refine sr_nil ?_
            show ∃ s', _ ∧ _ ∧ _ ∧ _
            exact ⟨i + 1, by omega, by omega, KeepF.auto, Sub.autoP⟩
          · refine sr_nil ?_
            refine aw_kp [4, 8, 10, 13, 16, 144, 145, 146, 147] ?_
            refine aw_false rfl ?_
            refine aw_exit ?_
            show AW _ _ _ _ _ _ _
            refine aw_seq_region ?_
            refine sr_d rfl (wtd_none rfl) rfl (opS_call rfl rfl rfl rfl cl18 (awake27_s _)) ?_
            rintro _ H9 ⟨rfl, rfl⟩
            refine sr_as ?_
            refine sr_nil ?_
            refine aw_kp [4] ?_
            refine aw_ret ?_
            show ∃ v H2, ResV _ _ _ _ _ _ v ∧ Sub H2 _ ∧ _
            exact ⟨_, [], resV rfl (.cons rfl .nil), (Sub.nil _), rfl⟩
end
namespace SwfTextsRow
open Go.ChangeShapes Go.WideShapes Go.ChangeAt Go.RowKit
theorem own : ownKnob Tryd.prog.godebug = none := by kernel_rfl
theorem laidOut : laidOutB Tryd.prog = true := by kernel_rfl
def laid : List (String × DataW Unit) := [("unicode/utf8.acceptRanges", Rows.laid_unicode_utf8_acceptRanges), ("unicode/utf8.first", Rows.laid_unicode_utf8_first)]
set_option maxRecDepth 100000 in
theorem lifted (os : Os) (started : os.Started) (H : Type) (enc : TypeId × Value → H) :
    ReturnsInHanded {} Tryd.checked os 7 .any (fun w args => (Rows.swfTextsSpec.pre enc Tryd.prog Tryd.f7 [] false w args ∧ laidMetH Tryd.prog laid w) ∧ sizedMet enc Tryd.prog Tryd.f7 (OpenSpec.ofChange Rows.swfTextsSpec) false w args)
      (Rows.swfTextsSpec.post enc Tryd.prog Tryd.f7 false true false false) := by
  refine law_lifted_laid (C := Tryd.checked) (tb := 4) (laid := laid) own started (by kernel_rfl) Tryd.func7
    (ChangeSpec.witness_shaped (enc := enc) (C := Tryd.checked) (os := os) (X := fun w _ => laidMetH Tryd.prog laid w) false (World.laidAll Tryd.prog os laid) #[.slice none 0 0, .string .empty] 8 (World.laidAll_os _ _ _)
      (World.shaped_of_ZipB (by kernel_rfl) (by kernel_rfl)) (by kernel_rfl) (by kernel_rfl) (by kernel_rfl)
      (by rw [MakeChecks.laidMetH_plain _ _ _ (by kernel_rfl)]; exact laidMet_laidAll _ (by kernel_rfl) (by kernel_rfl)))
    (fun w => MakeChecks.laidMetH_plain _ _ _ (by kernel_rfl)) rfl Tryd.underlying4 rfl laidOut (by kernel_rfl) ?_ ?_
  · intro ds h
    match ds, h with
    | [a0, a1], _ => rfl
  · intro W base args ds ps hval hA hlt hsz
    have hA' : DataW.TrodAll enc Tryd.prog W 0 (fun _ => true) true [24, 9] args ds ps := hA
    clear hA
    obtain ⟨v0, vs0, d0, ds0, p0, q0, rfl, rfl, rfl, h0, r0⟩ := trodAll_cons hA'
    obtain ⟨v1, vs1, d1, ds1, p1, q1, rfl, rfl, rfl, h1, r1⟩ := trodAll_cons r0
    obtain ⟨rfl, rfl, rfl⟩ := trodAll_nil r1
    obtain ⟨a, cap, xs, rfl, hs, hw⟩ := opn_slice Tryd.underlying24 cells30 (by decide) (fun fuel cs x h => read_Ent h) (hval 0 24 v0 rfl rfl) h0
    obtain ⟨s, rfl, _⟩ := opn_str Tryd.underlying9 (hval 1 9 v1 rfl rfl) h1
    rw [bs_all s]
    exact swfTexts_s a cap xs hs (fun x hx => (hw x hx).w) _
theorem joined : joinedFacts Tryd.prog 7 Tryd.f7 Rows.swfTextsSpec Rows.swfTextsRow = true := by
  unfold joinedFacts
  rw [cutMay, cutLif, cutMk]
  kernel_rfl
theorem over : Rows.swfTextsRow.holds Tryd.pinned (OpenSpec.ofChange Rows.swfTextsSpec) :=
  OpenClaim.holds_of_wide 7 Tryd.f7 rfl rfl rfl rfl rfl rfl rfl ⟨rfl, rfl, rfl, rfl, rfl⟩ rfl rfl rfl rfl rfl (by kernel_rfl) Tryd.func7 joined
    (of_decide_eq_true (by kernel_rfl)) (by unfold Func.isWrapper; first | (rw [if_pos (by decide +kernel)]; kernel_rfl) | (rw [if_neg (by decide +kernel)]; exact ⟨rfl, rfl⟩))
    (fun os started H enc _ => lifted os started H enc)
theorem proved : Rows.SwfTextsCardSaid :=
  Claim7.holds_tied_plain_at .later [] [.data, .pinned] true (true, "426c9bee184f4b528ab0760080dc1cc7cd819b0490f5c9691bd34e83eb6dee88") false over (fun _ h => by cases h) (by kernel_rfl) (fun _ h => by cases h) swfTexts_row_tie rfl ⟨rfl, rfl⟩ (by kernel_rfl) rfl
    (fun f fn hf hfn => by
      obtain rfl : f = 7 := Option.some.inj ((show Tryd.prog.funcNamed "berthage/berthagelaw27.SwfTexts" = some 7 by kernel_rfl).symm.trans hf) |>.symm
      obtain rfl : fn = Tryd.f7 := (Option.some.inj (Tryd.func7.symm.trans hfn)).symm
      exact ⟨by kernel_rfl, fun j t ht => by
        have ht' : (#[24, 9] : Array TypeId)[j]? = some t := ht
        have hm : t ∈ [24, 9] := by simpa using Array.mem_of_getElem? ht'
        have hall : ([24, 9].all fun u => !Tryd.prog.wantsStandIn u) = true := by kernel_rfl
        exact (show Tryd.prog.wantsStandIn t = false by simpa using List.all_eq_true.1 hall t hm)⟩)
    (by kernel_rfl)
#print axioms proved
end SwfTextsRow
end Go.Proofs.YtbcajgkaepihfaaDoor
