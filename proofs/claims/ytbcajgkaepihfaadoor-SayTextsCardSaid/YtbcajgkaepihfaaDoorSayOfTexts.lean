/- Requests are read of their text, and a line that is none is told by its number; no condition but that the listed variables lie as the program's text lays them. -/
import Derived.Test.YtbcajgkaepihfaaDoorSfg
import Derived.Test.YtbcajgkaepihfaaDoorSymLaid
import Derived.Test.YtbcajgkaepihfaaDoorRows
import Derived.Test.YtbcajgkaepihfaaDoorCards
import Derived.Test.YtbcajgkaepihfaaDoorTie
import Derived.Test.YtbcajgkaepihfaaDoorCut
import Derived.SevenTiedAt
namespace Go.Proofs.YtbcajgkaepihfaaDoor
open Go.Proofs.YtbcajgkaepihfaaDoor.Sym
open Go.RowKit (Below)
set_option linter.unusedVariables false
set_option linter.unusedSimpArgs false
structure TsG where
  k : Nat
  sl : Value
  E : SHeap
theorem cells2 : Tryd.prog.cellsOf 2 = 1 := by kernel_rfl
theorem cells3 : Tryd.prog.cellsOf 3 = 1 := by kernel_rfl
theorem cells35 : Tryd.prog.cellsOf 35 = 9 := by kernel_rfl
theorem cells4 : Tryd.prog.cellsOf 4 = 1 := by kernel_rfl
theorem cl22 : Callable Tryd.prog 22 := ⟨Tryd.f22, Tryd.func22, by kernel_rfl, by kernel_rfl⟩
theorem cl24 : Callable Tryd.prog 24 := ⟨Tryd.f24, Tryd.func24, by kernel_rfl, by kernel_rfl⟩
theorem cl25 : Callable Tryd.prog 25 := ⟨Tryd.f25, Tryd.func25, by kernel_rfl, by kernel_rfl⟩
theorem cl33 : Callable Tryd.prog 33 := ⟨Tryd.f33, Tryd.func33, by kernel_rfl, by kernel_rfl⟩
theorem cl35 : Callable Tryd.prog 35 := ⟨Tryd.f35, Tryd.func35, by kernel_rfl, by kernel_rfl⟩
section
variable {W0 : World}
set_option maxRecDepth 100000 in
theorem read_Req {H : Type} {enc : TypeId × Value → H} {w : World} {base : Nat} {spare : Nat → Bool} {held : Bool} {fuel : Nat} {cs : List Value} {x : DataW H × List MemPlace} (h : DataW.trod enc Tryd.prog w base spare held fuel 35 cs = some x) : ∃ j : Req, cs = j.cells ∧ j.Wf := by
  obtain ⟨hlen, n, hf⟩ := read_struct Tryd.underlying35 h
  rw [cells35] at hlen
  obtain ⟨a0, e0, l0, u0⟩ := read_int Tryd.underlying3 cells3 (hf 0 _ rfl)
  obtain ⟨a1, e1, l1, u1⟩ := read_int Tryd.underlying3 cells3 (hf 1 _ rfl)
  obtain ⟨a2, e2, l2, u2⟩ := read_int Tryd.underlying3 cells3 (hf 2 _ rfl)
  obtain ⟨a3, e3, l3, u3⟩ := read_int Tryd.underlying3 cells3 (hf 3 _ rfl)
  obtain ⟨a4, e4, l4, u4⟩ := read_int Tryd.underlying2 cells2 (hf 4 _ rfl)
  obtain ⟨a5, e5, l5, u5⟩ := read_int Tryd.underlying3 cells3 (hf 5 _ rfl)
  obtain ⟨a6, e6⟩ := read_bool Tryd.underlying4 cells4 (hf 6 _ rfl)
  obtain ⟨a7, e7, l7, u7⟩ := read_int Tryd.underlying3 cells3 (hf 7 _ rfl)
  obtain ⟨a8, e8, l8, u8⟩ := read_int Tryd.underlying2 cells2 (hf 8 _ rfl)
  refine ⟨⟨a0, a1, a2, a3, a4, a5, a6, a7, a8⟩, ?_, ⟨l0, u0, l1, u1, l2, u2, l3, u3, l4, u4, l5, u5, l7, u7, l8, u8⟩⟩
  apply List.ext_getElem?
  intro i
  match i with
  | 0 => exact e0
  | 1 => exact e1
  | 2 => exact e2
  | 3 => exact e3
  | 4 => exact e4
  | 5 => exact e5
  | 6 => exact e6
  | 7 => exact e7
  | 8 => exact e8
  | i + 9 => rw [List.getElem?_eq_none (by omega), List.getElem?_eq_none (by simp)]
set_option maxRecDepth 100000 in
theorem open_Req {H : Type} {enc : TypeId × Value → H} {w : World} {base b0 : Nat} {spare : Nat → Bool} {held : Bool} {v : Value} {d : DataW H} {p : List MemPlace} {r : Reach} (hv : Value.okWide Tryd.prog w r b0 35 v) (h : DataW.Trod enc Tryd.prog w base spare held 35 v d p) : ∃ j : Req, v = j.v ∧ j.Wf := by
  obtain ⟨cs, rfl, _⟩ := Go.WideShapes.okWide_struct Tryd.underlying35 hv
  obtain ⟨fuel, hf⟩ := h
  obtain ⟨j, h1, h2⟩ := read_Req hf
  refine ⟨j, ?_, h2⟩
  have : cs = j.cells.toArray := by apply Array.toList_inj.1; exact h1
  rw [this]
end

section
variable {W0 : World}
set_option maxRecDepth 100000 in
set_option maxHeartbeats 4000000 in
theorem sayTexts_s (sa : Option Addr) (scap : Nat) (l : List Req) (hs0 : ∀ G, SlV W0 G 9 Req.cells sa scap l) (hwf : ∀ x ∈ l, WfR x) (s0 : List UInt8) : AC Tryd.prog W0 11 [.slice sa l.length scap, .string (bs s0)] [] (fun v _ => v = .bool true) := by
  have hle0 := (hs0 []).le
  have hcb0 := (hs0 []).capb
  refine ac_of Tryd.func11 rfl rfl rfl ?_
  refine aw_seq_region ?_
  refine sr_as ?_
  refine sr_nil ?_
  refine aw_kp [0, 1, 4] ?_
  refine aw_seq_region ?_
  refine sr_mv ?_
  refine sr_d rfl (wtd_none rfl) rfl (opS_call rfl rfl rfl rfl cl22 (cut26_s s0 _)) ?_
  rintro _ H9 ⟨rfl, rfl⟩
  have hsl : (s0.take 150).length ≤ 150 := by rw [List.length_take]; omega
  generalize s0.take 150 = s at hsl ⊢
  refine sr_as ?_
  refine sr_nil ?_
  refine aw_kp [0, 1, 4] ?_
  refine aw_seq ?_
  refine aw_seq_region ?_
  refine sr_as ?_
  refine sr_nil ?_
  refine aw_kp [0, 1, 4, 5] ?_
  refine aw_block ?_
  refine aw_loop (ι := Nat) (fun k => k ≤ s.length ∧ (10 : UInt8) ∉ s.take k) (fun k => [(0, .slice sa l.length scap), (1, .string (bs s)), (4, .bool false), (5, .int .i64 k)]) (fun _ => []) (fun k => s.length - k) 0 (⟨Nat.zero_le _, by simp⟩) KeepF.auto Sub.autoP ?_
  intro k hk
  refine aw_seq ?_
  refine aw_seq_region ?_
  refine sr_mv ?_
  refine sr_mv ?_
  refine sr_rd (x_lenB Tryd.underlying9 rfl) ?_
  refine sr_c (x_lt rfl rfl) (fun h1 => ?_) (fun h1 => ?_)
  · refine sr_nil ?_
    refine aw_kp [0, 1, 4, 5, 21, 22, 23, 24] ?_
    refine aw_true rfl ?_
    refine aw_skip ?_
    show AW _ _ _ _ _ _ _
    refine aw_seq ?_
    refine aw_block ?_
    refine aw_seq_region ?_
    obtain ⟨x, hx⟩ := get_ex (show k < s.length by omega)
    refine sr_mv ?_
    refine sr_mv ?_
    refine sr_rd (x_indexB k Tryd.underlying9 rfl rfl (by first | rfl | omega) hx) ?_
    refine sr_c (x_eq rfl rfl) (fun h2 => ?_) (fun h2 => ?_)
    · refine sr_nil ?_
      refine aw_kp [0, 1, 4, 5, 21, 22, 23, 24, 27, 28, 29, 30] ?_
      refine aw_true rfl ?_
      refine aw_seq_region ?_
      refine sr_d rfl (wtd_none rfl) rfl (opS_call rfl rfl rfl rfl cl25 (awake26_s _)) ?_
      rintro _ H9 ⟨rfl, rfl⟩
      refine sr_as ?_
      refine sr_nil ?_
      refine aw_kp [0, 1, 4, 5, 21, 22, 23, 24, 27, 28, 29, 30, 31] ?_
      refine aw_ret ?_
      show ∃ v H2, ResV _ _ _ _ _ _ v ∧ Sub H2 _ ∧ _
      exact ⟨_, [], resV rfl (.cons rfl .nil), (Sub.nil _), rfl⟩
    · refine sr_nil ?_
      refine aw_kp [0, 1, 4, 5, 21, 22, 23, 24, 27, 28, 29, 30] ?_
      refine aw_false rfl ?_
      refine aw_skip ?_
      show AW _ _ _ _ _ _ _
      refine aw_region ?_
      refine sr_mv ?_
      refine sr_rd (x_add' rfl rfl (i64w (by omega) (by omega))) ?_
      refine sr_as ?_
      refine sr_nil ?_
      show ∃ s', _ ∧ _ ∧ _ ∧ _
      exact ⟨k + 1, ⟨by omega, (by rw [takeS hx, List.mem_append, not_or]; exact ⟨hk.2, by rw [List.mem_singleton]; intro q; have q2 : x.toNat = 10 := (by rw [← q]; rfl); omega⟩)⟩, by omega, KeepF.auto, Sub.autoP⟩
  · refine sr_nil ?_
    refine aw_kp [0, 1, 4, 5, 21, 22, 23, 24] ?_
    refine aw_false rfl ?_
    refine aw_exit ?_
    show AW _ _ _ _ _ _ _
    refine aw_join (ι := Unit) (fun _ => (10 : UInt8) ∉ s) (fun _ => [(0, .slice sa (l.take 40).length scap), (1, .string (bs s)), (4, .bool false)]) (fun _ => []) ?_ ?_
    · refine aw_seq_region ?_
      have hs10 : (10 : UInt8) ∉ s := by have := hk.2; rwa [List.take_of_length_le (by omega)] at this
      refine sr_mv ?_
      refine sr_rd (x_lenSlice Tryd.underlying53 rfl) ?_
      refine sr_c (x_gt rfl rfl) (fun h3 => ?_) (fun h3 => ?_)
      · refine sr_nil ?_
        refine aw_kp [0, 1, 4, 34] ?_
        refine aw_true rfl ?_
        refine aw_region ?_
        refine sr_mv ?_
        refine sr_rd (x_sliceHi Tryd.underlying53 sz35 rfl rfl (by omega) (by omega)) ?_
        refine sr_as ?_
        refine sr_nil ?_
        show ∃ s', _ ∧ _ ∧ _
        exact ⟨(), hs10, (by first | (rw [List.length_take, Nat.min_eq_left (by omega)]; exact KeepF.auto) | (rw [List.length_take, Nat.min_eq_right (by omega)]; exact KeepF.auto)), Sub.autoP⟩
      · refine sr_nil ?_
        refine aw_kp [0, 1, 4, 34] ?_
        refine aw_false rfl ?_
        refine aw_skip ?_
        show ∃ s', _ ∧ _ ∧ _
        exact ⟨(), hs10, (by first | (rw [List.length_take, Nat.min_eq_left (by omega)]; exact KeepF.auto) | (rw [List.length_take, Nat.min_eq_right (by omega)]; exact KeepF.auto)), Sub.autoP⟩
    · intro _ hs10
      obtain ⟨xs, hxs⟩ : ∃ xs, xs = l.take 40 := ⟨_, rfl⟩
      have hs : ∀ G, SlV W0 G 9 Req.cells sa scap xs := fun G => hxs ▸ (hs0 G).take 40
      have hx60 : xs.length ≤ 40 := by rw [hxs, List.length_take]; omega
      have hwx : ∀ x ∈ xs, WfR x := fun x hx => hwf x (List.mem_of_mem_take (hxs ▸ hx))
      rw [← hxs]
      have hle := (hs []).le
      have hcb := (hs []).capb
      refine aw_seq_region ?_
      refine sr_as ?_
      refine sr_nil ?_
      refine aw_kp [0, 1, 4, 6] ?_
      refine aw_seq_region ?_
      refine sr_as ?_
      refine sr_nil ?_
      refine aw_kp [0, 1, 4, 6, 7] ?_
      refine aw_seq ?_
      refine aw_seq_region ?_
      refine sr_as ?_
      refine sr_nil ?_
      refine aw_kp [0, 1, 4, 6, 7, 8] ?_
      refine aw_block ?_
      refine aw_loop (ι := TsG) (fun s => s.k ≤ xs.length ∧ OwnVec 9 35 s.sl (okR (xs.take s.k)).length ((okR (xs.take s.k)).flatMap Req.cells) s.E) (fun t => [(0, .slice sa xs.length scap), (1, .string (bs s)), (4, .bool false), (6, .string (bs (txtS (okR (xs.take t.k))))), (7, t.sl), (8, .int .i64 t.k)]) (fun s => s.E ++ []) (fun s => xs.length - s.k) ⟨0, .slice none 0 0, []⟩ (⟨Nat.zero_le _, .nil⟩) KeepF.auto Sub.autoP ?_
      intro t hs9
      obtain ⟨k, sl, EW⟩ := t
      dsimp only at hs9 ⊢
      obtain ⟨hk9, VW⟩ := hs9
      obtain ⟨a1, c1, rfl⟩ := VW.isSl
      refine aw_seq ?_
      refine aw_seq_region ?_
      refine sr_mv ?_
      refine sr_mv ?_
      refine sr_rd (x_lenSlice Tryd.underlying53 rfl) ?_
      refine sr_c (x_lt rfl rfl) (fun h4 => ?_) (fun h4 => ?_)
      · refine sr_nil ?_
        refine aw_kp [0, 1, 4, 6, 7, 8, 37, 38, 39, 40] ?_
        refine aw_true rfl ?_
        refine aw_skip ?_
        show AW _ _ _ _ _ _ _
        refine aw_seq ?_
        refine aw_block ?_
        refine aw_seq_region ?_
        obtain ⟨x, hx⟩ := get_ex (show k < xs.length by omega)
        obtain ⟨bx, ox, hax, hcx⟩ := (hs []).at_ k _ hx
        refine sr_mv ?_
        refine sr_mv ?_
        refine sr_rd (x_indexAddrN (k) Tryd.underlying53 sz35 rfl hax rfl (by omega) (by omega)) ?_
        refine sr_rd (x_loadN ag35 sz35 rfl (Cells.mono hcx (Sub.nil _)) rfl) ?_
        refine sr_d rfl (wtd_none rfl) rfl (opS_call rfl rfl rfl rfl cl24 (line_s x (hwx x (List.mem_of_getElem? hx)) _)) ?_
        rintro _ H9 ⟨rfl, rfl⟩
        by_cases hg : GoodR x
        · rw [lineB_g hg]
          refine sr_c (x_neB rfl rfl) (fun h5 => ?_) (fun h5 => absurd (by first | exact line_ne hg | exact fun h => h rfl) h5)
          refine sr_nil ?_
          refine aw_kp [0, 1, 4, 6, 7, 8, 37, 38, 39, 40, 43, 44, 45, 46, 47, 48] ?_
          refine aw_true rfl ?_
          refine aw_seq_region ?_
          have htl := txtS_len (rs := okR (xs.take k)) (fun r hr => hwx r (List.mem_of_mem_take (List.mem_filter.1 hr).1))
          have hol := okR_len2 (xs := xs) (k := k)
          refine sr_mv ?_
          refine sr_mv ?_
          refine sr_mv ?_
          refine sr_rd (x_indexAddrN (k) Tryd.underlying53 sz35 rfl hax rfl (by omega) (by omega)) ?_
          refine sr_rd (x_loadN ag35 sz35 rfl (Cells.mono hcx (Sub.nil _)) rfl) ?_
          refine sr_d rfl (wtd_none rfl) rfl (opS_call rfl rfl rfl rfl cl24 (line_s x (hwx x (List.mem_of_getElem? hx)) _)) ?_
          rintro _ H9 ⟨rfl, rfl⟩
          rw [lineB_g hg]
          have hell := line_len (fld_wf (hwx x (List.mem_of_getElem? hx)))
          refine sr_rd (x_catB rfl rfl (by first | omega | (simp only [List.length_append, List.length_cons, List.length_nil]; omega))) ?_
          refine sr_rd (x_catB rfl rfl (by first | omega | (simp only [List.length_append, List.length_cons, List.length_nil]; omega))) ?_
          refine sr_as ?_
          refine sr_nil ?_
          refine aw_kp [0, 1, 4, 6, 7, 8, 37, 38, 39, 40, 43, 44, 45, 46, 47, 48, 49, 50, 51, 52, 53, 54, 55, 56] ?_
          refine aw_region ?_
          refine sr_mv ?_
          refine sr_mv ?_
          refine sr_mv ?_
          refine sr_rd (x_indexAddrN (k) Tryd.underlying53 sz35 rfl hax rfl (by omega) (by omega)) ?_
          refine sr_rd (x_loadN ag35 sz35 rfl (Cells.mono hcx (Sub.nil _)) rfl) ?_
          refine sr_new rfl (wtd_none rfl) rfl (x_buildSlice Tryd.underlying53 sz35 zr35 rfl rfl rfl rfl Parts.auto Fill.auto) ?_
          intro r16_5 hr16_5 gr16_5
          refine sr_d rfl (wtd_none rfl) rfl (opS_append (G := []) (N := x.cells) (m := 1) Tryd.underlying53 sz35 zr35 rfl by35 rfl rfl VW Sub.autoP (.inr ⟨_, _, rfl, (cells_ext mauto Ext.auto)⟩) (rfl) rfl (by omega) (by omega)) ?_
          rintro v63 _ ⟨E63, hV63, rfl⟩
          obtain ⟨a63, cap63, rfl⟩ := hV63.isSl
          refine sr_as ?_
          refine sr_nil ?_
          show AW _ _ _ _ _ _ _
          refine aw_region ?_
          refine sr_mv ?_
          refine sr_rd (x_add' rfl rfl (i64w (by omega) (by omega))) ?_
          refine sr_as ?_
          refine sr_nil ?_
          show ∃ s', _ ∧ _ ∧ _ ∧ _
          first | exact ⟨⟨k + 1, _, E63⟩, ⟨by dsimp only; omega, (by dsimp only; rw [okR_yes hx hg]; have h9 := hV63.snocS; rw [List.length_append] at h9 ⊢; exact h9)⟩, by dsimp only; omega, (by dsimp only; rw [okR_yes hx hg, txtS_snoc]; exact KeepF.auto), Sub.autoD⟩ | exact ⟨⟨k + 1, _, EW⟩, ⟨by dsimp only; omega, (by dsimp only; rw [okR_no hx hg]; exact VW)⟩, by dsimp only; omega, (by dsimp only; rw [okR_no hx hg]; exact KeepF.auto), Sub.autoD⟩
        · rw [lineB_n hg]
          refine sr_c (x_neB rfl rfl) (fun h6 => absurd h6 (by first | exact line_ne hg | exact fun h => h rfl)) (fun h6 => ?_)
          refine sr_nil ?_
          refine aw_kp [0, 1, 4, 6, 7, 8, 37, 38, 39, 40, 43, 44, 45, 46, 47, 48] ?_
          refine aw_false rfl ?_
          refine aw_skip ?_
          show AW _ _ _ _ _ _ _
          refine aw_region ?_
          refine sr_mv ?_
          refine sr_rd (x_add' rfl rfl (i64w (by omega) (by omega))) ?_
          refine sr_as ?_
          refine sr_nil ?_
          show ∃ s', _ ∧ _ ∧ _ ∧ _
          first | exact ⟨⟨k + 1, _, E63⟩, ⟨by dsimp only; omega, (by dsimp only; rw [okR_yes hx hg]; have h9 := hV63.snocS; rw [List.length_append] at h9 ⊢; exact h9)⟩, by dsimp only; omega, (by dsimp only; rw [okR_yes hx hg, txtS_snoc]; exact KeepF.auto), Sub.autoD⟩ | exact ⟨⟨k + 1, _, EW⟩, ⟨by dsimp only; omega, (by dsimp only; rw [okR_no hx hg]; exact VW)⟩, by dsimp only; omega, (by dsimp only; rw [okR_no hx hg]; exact KeepF.auto), Sub.autoD⟩
      · refine sr_nil ?_
        refine aw_kp [0, 1, 4, 6, 7, 8, 37, 38, 39, 40] ?_
        refine aw_false rfl ?_
        refine aw_exit ?_
        show AW _ _ _ _ _ _ _
        refine aw_seq_region ?_
        rw [List.take_of_length_le (show xs.length ≤ k by omega)] at VW ⊢
        have htl := txtS_len (rs := okR xs) (fun r hr => hwx r (List.mem_filter.1 hr).1)
        have hol := okR_len (xs := xs)
        refine sr_mv ?_
        refine sr_d rfl (wtd_none rfl) rfl (opS_call rfl rfl rfl rfl cl35 (stext_s sa scap xs _ (hs _) hwx (by omega))) ?_
        rintro _ H9 ⟨rfl, rfl⟩
        refine sr_d rfl (wtd_none rfl) rfl (opS_call rfl rfl rfl rfl cl33 (sayread_s (txtS (okR xs)) (by omega) _)) ?_
        rintro _ _ ⟨a9, c9, E9, rfl, V9, rfl⟩
        rw [sayR_txt (okR_all hwx) (by omega)] at V9 ⊢
        refine sr_mv ?_
        refine sr_rd (x_extract rfl rfl) ?_
        refine sr_rd (x_extract rfl rfl) ?_
        refine sr_rd (x_extract rfl rfl) ?_
        refine sr_as ?_
        refine sr_as ?_
        refine sr_as ?_
        refine sr_nil ?_
        refine aw_kp [0, 1, 4, 6, 7, 9, 10, 11] ?_
        refine aw_seq ?_
        refine aw_seq_region ?_
        refine sr_mv ?_
        refine sr_d rfl (wtd_none rfl) rfl (opS_call rfl rfl rfl rfl cl35 (stext_s sa scap xs _ (hs _) hwx (by omega))) ?_
        rintro _ H9 ⟨rfl, rfl⟩
        refine sr_mv ?_
        refine sr_c (x_neB rfl rfl) (fun h7 => absurd h7 (by exact fun h => h rfl)) (fun h7 => ?_)
        refine sr_mv ?_
        refine sr_ry (x_move rfl) ?_
        refine sr_cy (x_ne rfl rfl) (fun h8 => absurd h8 (by exact fun h => h rfl)) (fun h8 => ?_)
        refine sr_rd (x_pick_f rfl rfl rfl) ?_
        refine sr_mv ?_
        refine sr_ry (x_move rfl) ?_
        refine sr_cy (x_ne rfl rfl) (fun h9 => absurd h9 (by exact fun h => h rfl)) (fun h9 => ?_)
        refine sr_rd (x_pick_f rfl rfl rfl) ?_
        refine sr_mv ?_
        refine sr_ry (x_move rfl) ?_
        refine sr_ry (x_lenSlice Tryd.underlying53 rfl) ?_
        refine sr_ry (x_move rfl) ?_
        refine sr_ry (x_lenSlice Tryd.underlying53 rfl) ?_
        refine sr_cy (x_ne rfl rfl) (fun h10 => absurd h10 (by exact fun h => h rfl)) (fun h10 => ?_)
        refine sr_rd (x_pick_f rfl rfl rfl) ?_
        refine sr_nil ?_
        refine aw_kp [1, 4, 6, 7, 9, 89] ?_
        refine aw_false rfl ?_
        refine aw_skip ?_
        show AW _ _ _ _ _ _ _
        refine aw_seq ?_
        refine aw_seq_region ?_
        have hsW := VW.slv' (W0 := W0) (xs := okR xs) (fun _ => rfl) rfl (Sub.refl _)
        have hsX := V9.slv' (W0 := W0) (xs := okR xs) (fun _ => rfl) rfl (Sub.refl _)
        have hlW := hsW.le
        have hlX := hsX.le
        have hbW := hsW.capb
        have hbX := hsX.capb
        refine sr_as ?_
        refine sr_nil ?_
        refine aw_kp [1, 4, 6, 7, 9, 12] ?_
        refine aw_block ?_
        refine aw_loop (ι := Nat) (fun i => i ≤ (okR xs).length) (fun i => [(1, .string (bs s)), (4, .bool false), (6, .string (bs (txtS (okR xs)))), (7, .slice a1 (okR xs).length c1), (9, .slice a9 (okR xs).length c9), (12, .int .i64 i)]) (fun _ => E9 ++ (EW ++ [])) (fun i => (okR xs).length - i) 0 (Nat.zero_le _) KeepF.auto Sub.autoP ?_
        intro i hi
        refine aw_seq ?_
        refine aw_seq_region ?_
        refine sr_mv ?_
        refine sr_mv ?_
        refine sr_rd (x_lenSlice Tryd.underlying53 rfl) ?_
        refine sr_c (x_lt rfl rfl) (fun h11 => ?_) (fun h11 => ?_)
        · refine sr_nil ?_
          refine aw_kp [1, 4, 6, 7, 9, 12, 90, 91, 92, 93] ?_
          refine aw_true rfl ?_
          refine aw_skip ?_
          show AW _ _ _ _ _ _ _
          refine aw_seq ?_
          refine aw_block ?_
          refine aw_seq_dr ⟨_, 9, 160, [[], [], [0, 1], [0, 1, 2], [], [], [4, 5], [4, 5, 6], [0, 1, 2, 3, 4, 5, 6, 7]], [.light, .light, .light, .mem, .light, .light, .light, .mem, .light]⟩ (by kernel_rfl) rfl rfl mix ?_
          obtain ⟨y, hy⟩ := get_ex (show i < (okR xs).length by omega)
          obtain ⟨bw, ow, haw, hcw⟩ := hsW.at_ i _ hy
          obtain ⟨b9, o9, ha9, hc9⟩ := hsX.at_ i _ hy
          refine dr_l (x_move rfl) ?_
          refine dr_l (x_move rfl) ?_
          refine dr_l (x_indexAddrN (i) Tryd.underlying53 sz35 rfl ha9 rfl (by omega) (by omega)) ?_
          refine dr_mem0 rfl rfl (wtd_none rfl) (x_loadN ag35 sz35 rfl (Cells.mono hc9 Sub.autoE) rfl) ?_
          refine dr_l (x_move rfl) ?_
          refine dr_l (x_move rfl) ?_
          refine dr_l (x_indexAddrN (i) Tryd.underlying53 sz35 rfl haw rfl (by omega) (by omega)) ?_
          refine dr_mem0 rfl rfl (wtd_none rfl) (x_loadN ag35 sz35 rfl (Cells.mono hcw Sub.autoE) rfl) ?_
          refine dr_cmp rfl rfl (wtd_none rfl) (x_neStruct Tryd.underlying35 ks35 rfl rfl rfl rfl rfl) (fun h12 => absurd h12 (by exact fun h => Bool.noConfusion (((eqC_req (a := y) (b := y)).2 rfl).symm.trans h))) (fun h12 => ?_)
          refine dr_nil0 ?_
          refine aw_kp [1, 4, 6, 7, 9, 12, 90, 91, 92, 93, 96, 97, 98, 99, 100, 101, 102, 103, 104] ?_
          refine aw_false rfl ?_
          refine aw_skip ?_
          show AW _ _ _ _ _ _ _
          refine aw_region ?_
          refine sr_mv ?_
          refine sr_rd (x_add' rfl rfl (i64w (by omega) (by omega))) ?_
          refine sr_as ?_
          refine sr_nil ?_
          show ∃ s', _ ∧ _ ∧ _ ∧ _
          exact ⟨i + 1, by omega, by omega, KeepF.auto, Sub.autoP⟩
        · refine sr_nil ?_
          refine aw_kp [1, 4, 6, 7, 9, 12, 90, 91, 92, 93] ?_
          refine aw_false rfl ?_
          refine aw_exit ?_
          show AW _ _ _ _ _ _ _
          refine aw_seq_region ?_
          refine sr_mv ?_
          refine sr_mv ?_
          refine sr_rd (x_catB rfl rfl (by first | omega | (simp only [List.length_append, List.length_cons, List.length_nil]; omega))) ?_
          refine sr_d rfl (wtd_none rfl) rfl (opS_call rfl rfl rfl rfl cl33 (sayread_s (txtS (okR xs) ++ s) (by rw [List.length_append]; omega) _)) ?_
          rintro _ _ ⟨a8, c8, E8, rfl, V8, rfl⟩
          obtain ⟨rfl, hr⟩ | ⟨hsn, hep, hr⟩ | ⟨x, hsn, hep, hr⟩ := sayR_cases (okR xs) s (okR_all hwx) (by omega) hs10
          · rw [hr] at V8 ⊢
            refine sr_mv ?_
            refine sr_rd (x_extract rfl rfl) ?_
            refine sr_rd (x_extract rfl rfl) ?_
            refine sr_rd (x_extract rfl rfl) ?_
            refine sr_as ?_
            refine sr_as ?_
            refine sr_as ?_
            refine sr_nil ?_
            refine aw_kp [1, 4, 7, 13, 14, 15] ?_
            refine aw_seq_region ?_
            refine sr_mv ?_
            refine sr_d rfl (wtd_none rfl) rfl (opS_call rfl rfl rfl rfl cl23 (parse_s [] (by first | omega | decide) _)) ?_
            rintro _ H9 ⟨rfl, rfl⟩
            rw [show parseB [] = none from by kernel_rfl]
            refine sr_mv ?_
            refine sr_rd (x_extract rfl rfl) ?_
            refine sr_rd (x_extract rfl rfl) ?_
            refine sr_new rfl (wtd_none rfl) rfl (x_alloc zr35 rfl) ?_
            intro r26_5 hr26_5 gr26_5
            refine sr_x0 rfl (wtd_none rfl) (x_store sz35 rfl rfl rfl rfl rfl Repl.auto Spl.auto) ?_
            refine sr_as ?_
            refine sr_nil ?_
            refine aw_kp [1, 4, 7, 13, 14, 15, 17] ?_
            refine aw_seq ?_
            refine aw_seq_region ?_
            refine sr_mv ?_
            refine sr_c (x_eqB rfl rfl) (fun h13 => ?_) (fun h13 => absurd (by first | rfl | exact hsn) h13)
            refine sr_mv ?_
            refine sr_sk ?_
            refine sr_sk ?_
            refine sr_rd (x_pick_t rfl rfl rfl) ?_
            refine sr_nil ?_
            refine aw_kp [1, 4, 7, 13, 14, 15, 123] ?_
            refine aw_true rfl ?_
            refine aw_seq_region ?_
            refine sr_as ?_
            refine sr_nil ?_
            refine aw_kp [1, 4, 7, 13, 14, 15, 18] ?_
            refine aw_seq ?_
            refine aw_seq_region ?_
            refine sr_mv ?_
            refine sr_c (x_neB rfl rfl) (fun h14 => absurd h14 (by first | exact hsn | exact fun h => h rfl)) (fun h14 => ?_)
            refine sr_nil ?_
            refine aw_kp [4, 7, 13, 14, 15, 18, 125] ?_
            refine aw_false rfl ?_
            refine aw_skip ?_
            show AW _ _ _ _ _ _ _
            refine aw_seq_region ?_
            refine sr_mv ?_
            refine sr_c (x_eq rfl rfl) (fun h15 => ?_) (fun h15 => absurd (by rfl) h15)
            refine sr_mv ?_
            refine sr_ry (x_move rfl) ?_
            refine sr_cy (x_eq rfl rfl) (fun h16 => ?_) (fun h16 => absurd (by rfl) h16)
            refine sr_rd (x_pick_t rfl rfl rfl) ?_
            refine sr_mv ?_
            refine sr_ry (x_move rfl) ?_
            refine sr_ry (x_lenSlice Tryd.underlying53 rfl) ?_
            refine sr_ry (x_move rfl) ?_
            refine sr_ry (x_lenSlice Tryd.underlying53 rfl) ?_
            refine sr_ry (x_move rfl) ?_
            refine sr_ry (x_add' rfl rfl (i64w (by omega) (by omega))) ?_
            refine sr_cy (x_eq rfl rfl) (fun h17 => ?_) (fun h17 => absurd (by first | rfl | (rw [hl9]; rfl) | omega) h17)
            refine sr_rd (x_pick_t rfl rfl rfl) ?_
            refine sr_mv ?_
            refine sr_d rfl (wtd_yes rfl rfl rfl) rfl (opS_call rfl rfl rfl rfl cl25 (awake26_s _)) ?_
            rintro _ H9 ⟨rfl, rfl⟩
            refine sr_rd (x_pick_t rfl rfl rfl) ?_
            refine sr_as ?_
            refine sr_nil ?_
            refine aw_kp [4, 7, 13, 14, 15] ?_
            refine aw_ret ?_
            show ∃ v H2, ResV _ _ _ _ _ _ v ∧ Sub H2 _ ∧ _
            exact ⟨_, [], resV rfl (.cons rfl .nil), (Sub.nil _), rfl⟩
          · rw [hr] at V8 ⊢
            refine sr_mv ?_
            refine sr_rd (x_extract rfl rfl) ?_
            refine sr_rd (x_extract rfl rfl) ?_
            refine sr_rd (x_extract rfl rfl) ?_
            refine sr_as ?_
            refine sr_as ?_
            refine sr_as ?_
            refine sr_nil ?_
            refine aw_kp [1, 4, 7, 13, 14, 15] ?_
            refine aw_seq_region ?_
            refine sr_mv ?_
            refine sr_d rfl (wtd_none rfl) rfl (opS_call rfl rfl rfl rfl cl23 (parse_s s (by first | omega | decide) _)) ?_
            rintro _ H9 ⟨rfl, rfl⟩
            rw [hep]
            refine sr_mv ?_
            refine sr_rd (x_extract rfl rfl) ?_
            refine sr_rd (x_extract rfl rfl) ?_
            refine sr_new rfl (wtd_none rfl) rfl (x_alloc zr35 rfl) ?_
            intro r26_5 hr26_5 gr26_5
            refine sr_x0 rfl (wtd_none rfl) (x_store sz35 rfl rfl rfl rfl rfl Repl.auto Spl.auto) ?_
            refine sr_as ?_
            refine sr_nil ?_
            refine aw_kp [1, 4, 7, 13, 14, 15, 17] ?_
            refine aw_seq ?_
            refine aw_seq_region ?_
            refine sr_mv ?_
            refine sr_c (x_eqB rfl rfl) (fun h18 => absurd h18 (by first | rfl | exact hsn)) (fun h18 => ?_)
            refine sr_mv ?_
            refine sr_ry (x_move rfl) ?_
            refine sr_cy (x_eq rfl rfl) (fun h19 => absurd h19 (by first | rfl | (show ¬ (4 : Int) = 0; decide))) (fun h19 => ?_)
            refine sr_rd (x_pick_f rfl rfl rfl) ?_
            refine sr_nil ?_
            refine aw_kp [1, 4, 7, 13, 14, 15, 123] ?_
            refine aw_false rfl ?_
            refine aw_skip ?_
            show AW _ _ _ _ _ _ _
            refine aw_seq_region ?_
            refine sr_mv ?_
            refine sr_rd (x_lenSlice Tryd.underlying53 rfl) ?_
            refine sr_c (x_eq rfl rfl) (fun h20 => ?_) (fun h20 => absurd (by rfl) h20)
            refine sr_mv ?_
            refine sr_ry (x_move rfl) ?_
            refine sr_ry (x_move rfl) ?_
            refine sr_ry (x_lenSlice Tryd.underlying53 rfl) ?_
            refine sr_cy (x_eq rfl rfl) (fun h21 => ?_) (fun h21 => absurd (by rfl) h21)
            refine sr_rd (x_pick_t rfl rfl rfl) ?_
            refine sr_mv ?_
            refine sr_ry (x_move rfl) ?_
            refine sr_cy (x_eq rfl rfl) (fun h22 => ?_) (fun h22 => absurd (by rfl) h22)
            refine sr_rd (x_pick_t rfl rfl rfl) ?_
            refine sr_mv ?_
            refine sr_d rfl (wtd_yes rfl rfl rfl) rfl (opS_call rfl rfl rfl rfl cl25 (awake26_s _)) ?_
            rintro _ H9 ⟨rfl, rfl⟩
            refine sr_rd (x_pick_t rfl rfl rfl) ?_
            refine sr_as ?_
            refine sr_nil ?_
            refine aw_kp [4] ?_
            refine aw_ret ?_
            show ∃ v H2, ResV _ _ _ _ _ _ v ∧ Sub H2 _ ∧ _
            exact ⟨_, [], resV rfl (.cons rfl .nil), (Sub.nil _), rfl⟩
          · rw [hr] at V8 ⊢
            have hl9 : (okR xs ++ [x]).length = (okR xs).length + 1 := by rw [List.length_append]; rfl
            refine sr_mv ?_
            refine sr_rd (x_extract rfl rfl) ?_
            refine sr_rd (x_extract rfl rfl) ?_
            refine sr_rd (x_extract rfl rfl) ?_
            refine sr_as ?_
            refine sr_as ?_
            refine sr_as ?_
            refine sr_nil ?_
            refine aw_kp [1, 4, 7, 13, 14, 15] ?_
            refine aw_seq_region ?_
            refine sr_mv ?_
            refine sr_d rfl (wtd_none rfl) rfl (opS_call rfl rfl rfl rfl cl23 (parse_s s (by first | omega | decide) _)) ?_
            rintro _ H9 ⟨rfl, rfl⟩
            rw [hep]
            refine sr_mv ?_
            refine sr_rd (x_extract rfl rfl) ?_
            refine sr_rd (x_extract rfl rfl) ?_
            refine sr_new rfl (wtd_none rfl) rfl (x_alloc zr35 rfl) ?_
            intro r26_5 hr26_5 gr26_5
            refine sr_x0 rfl (wtd_none rfl) (x_store sz35 rfl rfl rfl rfl rfl Repl.auto Spl.auto) ?_
            refine sr_as ?_
            refine sr_nil ?_
            refine aw_kp [1, 4, 7, 13, 14, 15, 17] ?_
            refine aw_seq ?_
            refine aw_seq_region ?_
            refine sr_mv ?_
            refine sr_c (x_eqB rfl rfl) (fun h23 => absurd h23 (by first | rfl | exact hsn)) (fun h23 => ?_)
            refine sr_mv ?_
            refine sr_ry (x_move rfl) ?_
            refine sr_cy (x_eq rfl rfl) (fun h24 => ?_) (fun h24 => absurd (by first | rfl | (show ¬ (4 : Int) = 0; decide)) h24)
            refine sr_rd (x_pick_f rfl rfl rfl) ?_
            refine sr_nil ?_
            refine aw_kp [1, 4, 7, 13, 14, 15, 123] ?_
            refine aw_true rfl ?_
            refine aw_seq_region ?_
            refine sr_as ?_
            refine sr_nil ?_
            refine aw_kp [1, 4, 7, 13, 14, 15, 18] ?_
            refine aw_seq ?_
            refine aw_seq_region ?_
            refine sr_mv ?_
            refine sr_c (x_neB rfl rfl) (fun h25 => ?_) (fun h25 => absurd (by first | exact hsn | exact fun h => h rfl) h25)
            refine sr_nil ?_
            refine aw_kp [4, 7, 13, 14, 15, 18, 125] ?_
            refine aw_true rfl ?_
            refine aw_region ?_
            refine sr_as ?_
            refine sr_nil ?_
            show AW _ _ _ _ _ _ _
            refine aw_seq_region ?_
            refine sr_mv ?_
            refine sr_c (x_eq rfl rfl) (fun h26 => ?_) (fun h26 => absurd (by rfl) h26)
            refine sr_mv ?_
            refine sr_ry (x_move rfl) ?_
            refine sr_cy (x_eq rfl rfl) (fun h27 => ?_) (fun h27 => absurd (by rfl) h27)
            refine sr_rd (x_pick_t rfl rfl rfl) ?_
            refine sr_mv ?_
            refine sr_ry (x_move rfl) ?_
            refine sr_ry (x_lenSlice Tryd.underlying53 rfl) ?_
            refine sr_ry (x_move rfl) ?_
            refine sr_ry (x_lenSlice Tryd.underlying53 rfl) ?_
            refine sr_ry (x_move rfl) ?_
            refine sr_ry (x_add' rfl rfl (i64w (by omega) (by omega))) ?_
            refine sr_cy (x_eq rfl rfl) (fun h28 => ?_) (fun h28 => absurd (by first | rfl | (rw [hl9]; rfl) | omega) h28)
            refine sr_rd (x_pick_t rfl rfl rfl) ?_
            refine sr_mv ?_
            refine sr_d rfl (wtd_yes rfl rfl rfl) rfl (opS_call rfl rfl rfl rfl cl25 (awake26_s _)) ?_
            rintro _ H9 ⟨rfl, rfl⟩
            refine sr_rd (x_pick_t rfl rfl rfl) ?_
            refine sr_as ?_
            refine sr_nil ?_
            refine aw_kp [4, 7, 13, 14, 15] ?_
            refine aw_ret ?_
            show ∃ v H2, ResV _ _ _ _ _ _ v ∧ Sub H2 _ ∧ _
            exact ⟨_, [], resV rfl (.cons rfl .nil), (Sub.nil _), rfl⟩
end
namespace SayTextsRow
open Go.ChangeShapes Go.WideShapes Go.ChangeAt Go.RowKit
theorem own : ownKnob Tryd.prog.godebug = none := by kernel_rfl
theorem laidOut : laidOutB Tryd.prog = true := by kernel_rfl
def laid : List (String × DataW Unit) := [("unicode/utf8.acceptRanges", Rows.laid_unicode_utf8_acceptRanges), ("unicode/utf8.first", Rows.laid_unicode_utf8_first)]
set_option maxRecDepth 100000 in
theorem lifted (os : Os) (started : os.Started) (H : Type) (enc : TypeId × Value → H) :
    ReturnsInHanded {} Tryd.checked os 11 .any (fun w args => (Rows.sayTextsSpec.pre enc Tryd.prog Tryd.f11 [] false w args ∧ laidMetH Tryd.prog laid w) ∧ sizedMet enc Tryd.prog Tryd.f11 (OpenSpec.ofChange Rows.sayTextsSpec) false w args)
      (Rows.sayTextsSpec.post enc Tryd.prog Tryd.f11 false true false false) := by
  refine law_lifted_laid (C := Tryd.checked) (tb := 4) (laid := laid) own started (by kernel_rfl) Tryd.func11
    (ChangeSpec.witness_shaped (enc := enc) (C := Tryd.checked) (os := os) (X := fun w _ => laidMetH Tryd.prog laid w) false (World.laidAll Tryd.prog os laid) #[.slice none 0 0, .string .empty] 8 (World.laidAll_os _ _ _)
      (World.shaped_of_ZipB (by kernel_rfl) (by kernel_rfl)) (by kernel_rfl) (by kernel_rfl) (by kernel_rfl)
      (by rw [MakeChecks.laidMetH_plain _ _ _ (by kernel_rfl)]; exact laidMet_laidAll _ (by kernel_rfl) (by kernel_rfl)))
    (fun w => MakeChecks.laidMetH_plain _ _ _ (by kernel_rfl)) rfl Tryd.underlying4 rfl laidOut (by kernel_rfl) ?_ ?_
  · intro ds h
    match ds, h with
    | [a0, a1], _ => rfl
  · intro W base args ds ps hval hA hlt hsz
    have hA' : DataW.TrodAll enc Tryd.prog W 0 (fun _ => true) true [53, 9] args ds ps := hA
    clear hA
    obtain ⟨v0, vs0, d0, ds0, p0, q0, rfl, rfl, rfl, h0, r0⟩ := trodAll_cons hA'
    obtain ⟨v1, vs1, d1, ds1, p1, q1, rfl, rfl, rfl, h1, r1⟩ := trodAll_cons r0
    obtain ⟨rfl, rfl, rfl⟩ := trodAll_nil r1
    obtain ⟨a, cap, xs, rfl, hs, hw⟩ := opn_slice Tryd.underlying53 cells35 (by decide) (fun fuel cs x h => read_Req h) (hval 0 53 v0 rfl rfl) h0
    obtain ⟨s, rfl, _⟩ := opn_str Tryd.underlying9 (hval 1 9 v1 rfl rfl) h1
    rw [bs_all s]
    exact sayTexts_s a cap xs hs (fun x hx => (hw x hx).w) _
theorem joined : joinedFacts Tryd.prog 11 Tryd.f11 Rows.sayTextsSpec Rows.sayTextsRow = true := by
  unfold joinedFacts
  rw [cutMay, cutLif, cutMk]
  kernel_rfl
theorem over : Rows.sayTextsRow.holds Tryd.pinned (OpenSpec.ofChange Rows.sayTextsSpec) :=
  OpenClaim.holds_of_wide 11 Tryd.f11 rfl rfl rfl rfl rfl rfl rfl ⟨rfl, rfl, rfl, rfl, rfl⟩ rfl rfl rfl rfl rfl (by kernel_rfl) Tryd.func11 joined
    (of_decide_eq_true (by kernel_rfl)) (by unfold Func.isWrapper; first | (rw [if_pos (by decide +kernel)]; kernel_rfl) | (rw [if_neg (by decide +kernel)]; exact ⟨rfl, rfl⟩))
    (fun os started H enc _ => lifted os started H enc)
theorem proved : Rows.SayTextsCardSaid :=
  Claim7.holds_tied_plain_at .later [] [.data, .pinned] true (true, "426c9bee184f4b528ab0760080dc1cc7cd819b0490f5c9691bd34e83eb6dee88") false over (fun _ h => by cases h) (by kernel_rfl) (fun _ h => by cases h) sayTexts_row_tie rfl ⟨rfl, rfl⟩ (by kernel_rfl) rfl
    (fun f fn hf hfn => by
      obtain rfl : f = 11 := Option.some.inj ((show Tryd.prog.funcNamed "berthage/berthagelaw26.SayTexts" = some 11 by kernel_rfl).symm.trans hf) |>.symm
      obtain rfl : fn = Tryd.f11 := (Option.some.inj (Tryd.func11.symm.trans hfn)).symm
      exact ⟨by kernel_rfl, fun j t ht => by
        have ht' : (#[53, 9] : Array TypeId)[j]? = some t := ht
        have hm : t ∈ [53, 9] := by simpa using Array.mem_of_getElem? ht'
        have hall : ([53, 9].all fun u => !Tryd.prog.wantsStandIn u) = true := by kernel_rfl
        exact (show Tryd.prog.wantsStandIn t = false by simpa using List.all_eq_true.1 hall t hm)⟩)
    (by kernel_rfl)
#print axioms proved
end SayTextsRow
end Go.Proofs.YtbcajgkaepihfaaDoor
