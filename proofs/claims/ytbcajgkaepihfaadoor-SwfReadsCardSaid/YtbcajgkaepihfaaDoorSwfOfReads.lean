/- Any line is read as the entry whose line it is, or as none; no condition but that the listed variables lie as the program's text lays them. -/
import Derived.Test.YtbcajgkaepihfaaDoorSfc
import Derived.Test.YtbcajgkaepihfaaDoorSymLaid
import Derived.Test.YtbcajgkaepihfaaDoorRows
import Derived.Test.YtbcajgkaepihfaaDoorCards
import Derived.Test.YtbcajgkaepihfaaDoorTie
import Derived.Test.YtbcajgkaepihfaaDoorCut
import Derived.SevenTiedAt
namespace Go.Proofs.YtbcajgkaepihfaaDoor
open Go.Proofs.YtbcajgkaepihfaaDoor.Sym
open Go.RowKit (Below)
set_option linter.unusedVariables false
set_option linter.unusedSimpArgs false
theorem cells2 : Tryd.prog.cellsOf 2 = 1 := by kernel_rfl
theorem cells3 : Tryd.prog.cellsOf 3 = 1 := by kernel_rfl
theorem cells30 : Tryd.prog.cellsOf 30 = 6 := by kernel_rfl
theorem cl18 : Callable Tryd.prog 18 := ⟨Tryd.f18, Tryd.func18, by kernel_rfl, by kernel_rfl⟩
theorem cl20 : Callable Tryd.prog 20 := ⟨Tryd.f20, Tryd.func20, by kernel_rfl, by kernel_rfl⟩
theorem cl21 : Callable Tryd.prog 21 := ⟨Tryd.f21, Tryd.func21, by kernel_rfl, by kernel_rfl⟩
section
variable {W0 : World}
set_option maxRecDepth 100000 in
theorem read_Ent {H : Type} {enc : TypeId × Value → H} {w : World} {base : Nat} {spare : Nat → Bool} {held : Bool} {fuel : Nat} {cs : List Value} {x : DataW H × List MemPlace} (h : DataW.trod enc Tryd.prog w base spare held fuel 30 cs = some x) : ∃ j : Ent, cs = j.cells ∧ j.Wf := by
  obtain ⟨hlen, n, hf⟩ := read_struct Tryd.underlying30 h
  rw [cells30] at hlen
  obtain ⟨a0, e0, l0, u0⟩ := read_int Tryd.underlying2 cells2 (hf 0 _ rfl)
  obtain ⟨a1, e1, l1, u1⟩ := read_int Tryd.underlying2 cells2 (hf 1 _ rfl)
  obtain ⟨a2, e2, l2, u2⟩ := read_int Tryd.underlying2 cells2 (hf 2 _ rfl)
  obtain ⟨a3, e3, l3, u3⟩ := read_int Tryd.underlying3 cells3 (hf 3 _ rfl)
  obtain ⟨a4, e4, l4, u4⟩ := read_int Tryd.underlying3 cells3 (hf 4 _ rfl)
  obtain ⟨a5, e5, l5, u5⟩ := read_int Tryd.underlying3 cells3 (hf 5 _ rfl)
  refine ⟨⟨a0, a1, a2, a3, a4, a5⟩, ?_, ⟨l0, u0, l1, u1, l2, u2, l3, u3, l4, u4, l5, u5⟩⟩
  apply List.ext_getElem?
  intro i
  match i with
  | 0 => exact e0
  | 1 => exact e1
  | 2 => exact e2
  | 3 => exact e3
  | 4 => exact e4
  | 5 => exact e5
  | i + 6 => rw [List.getElem?_eq_none (by omega), List.getElem?_eq_none (by simp)]
set_option maxRecDepth 100000 in
theorem open_Ent {H : Type} {enc : TypeId × Value → H} {w : World} {base b0 : Nat} {spare : Nat → Bool} {held : Bool} {v : Value} {d : DataW H} {p : List MemPlace} {r : Reach} (hv : Value.okWide Tryd.prog w r b0 30 v) (h : DataW.Trod enc Tryd.prog w base spare held 30 v d p) : ∃ j : Ent, v = j.v ∧ j.Wf := by
  obtain ⟨cs, rfl, _⟩ := Go.WideShapes.okWide_struct Tryd.underlying30 hv
  obtain ⟨fuel, hf⟩ := h
  obtain ⟨j, h1, h2⟩ := read_Ent hf
  refine ⟨j, ?_, h2⟩
  have : cs = j.cells.toArray := by apply Array.toList_inj.1; exact h1
  rw [this]
end

section
variable {W0 : World}
set_option maxRecDepth 100000 in
set_option maxHeartbeats 4000000 in
theorem swfReads_s (sa : Option Addr) (scap : Nat) (l : List Ent) (hs0 : ∀ G, SlV W0 G 6 Ent.cells sa scap l) (s0 : List UInt8) (e : Ent) (hwl : e.Wf) : AC Tryd.prog W0 4 [.slice sa l.length scap, .string (bs s0), e.v] [] (fun v _ => v = .bool true) := by
  have hle0 := (hs0 []).le
  have hcb0 := (hs0 []).capb
  refine ac_of Tryd.func4 rfl rfl rfl ?_
  refine aw_seq_region ?_
  refine sr_new rfl (wtd_none rfl) rfl (x_box rfl rfl) ?_
  intro r0_0 hr0_0 gr0_0
  refine sr_as ?_
  refine sr_nil ?_
  refine aw_kp [0, 1, 5, 6] ?_
  refine aw_join (ι := Unit) (fun _ => True) (fun _ => [(0, .slice sa (l.take 20).length scap), (1, .string (bs s0)), (5, .pointer (some ⟨r0_0, 0, none⟩)), (6, .bool false)]) (fun _ => [(r0_0, .cells e.cells.toArray 30 (0, 0))]) ?_ ?_
  · refine aw_seq_region ?_
    refine sr_mv ?_
    refine sr_rd (x_lenSlice Tryd.underlying24 rfl) ?_
    refine sr_c (x_gt rfl rfl) (fun h1 => ?_) (fun h1 => ?_)
    · refine sr_nil ?_
      refine aw_kp [0, 1, 5, 6, 16] ?_
      refine aw_true rfl ?_
      refine aw_region ?_
      refine sr_mv ?_
      refine sr_rd (x_sliceHi Tryd.underlying24 sz30 rfl rfl (by omega) (by omega)) ?_
      refine sr_as ?_
      refine sr_nil ?_
      show ∃ s', _ ∧ _ ∧ _
      exact ⟨(), trivial, (by first | (rw [List.length_take, Nat.min_eq_left (by omega)]; exact KeepF.auto) | (rw [List.length_take, Nat.min_eq_right (by omega)]; exact KeepF.auto)), Sub.autoP⟩
    · refine sr_nil ?_
      refine aw_kp [0, 1, 5, 6, 16] ?_
      refine aw_false rfl ?_
      refine aw_skip ?_
      show ∃ s', _ ∧ _ ∧ _
      exact ⟨(), trivial, (by first | (rw [List.length_take, Nat.min_eq_left (by omega)]; exact KeepF.auto) | (rw [List.length_take, Nat.min_eq_right (by omega)]; exact KeepF.auto)), Sub.autoP⟩
  · intro _ _
    obtain ⟨xs, hxs⟩ : ∃ xs, xs = l.take 20 := ⟨_, rfl⟩
    have hs : ∀ G, SlV W0 G 6 Ent.cells sa scap xs := fun G => hxs ▸ (hs0 G).take 20
    have hx60 : xs.length ≤ 20 := by rw [hxs, List.length_take]; omega
    rw [← hxs]
    have hle := (hs []).le
    have hcb := (hs []).capb
    refine aw_join (ι := Unit) (fun _ => True) (fun _ => [(0, .slice sa xs.length scap), (1, .string (bs (s0.take 150))), (5, .pointer (some ⟨r0_0, 0, none⟩)), (6, .bool false)]) (fun _ => [(r0_0, .cells e.cells.toArray 30 (0, 0))]) ?_ ?_
    · refine aw_seq_region ?_
      refine sr_mv ?_
      refine sr_rd (x_lenB Tryd.underlying9 rfl) ?_
      refine sr_c (x_gt rfl rfl) (fun h2 => ?_) (fun h2 => ?_)
      · refine sr_nil ?_
        refine aw_kp [0, 1, 5, 6, 21] ?_
        refine aw_true rfl ?_
        refine aw_region ?_
        refine sr_mv ?_
        refine sr_rd (x_sliceHiB (150) Tryd.underlying9 rfl rfl (by first | rfl | omega) (by omega)) ?_
        refine sr_as ?_
        refine sr_nil ?_
        show ∃ s', _ ∧ _ ∧ _
        exact ⟨(), trivial, (by first | exact KeepF.auto | (rw [List.take_of_length_le (by omega)]; exact KeepF.auto)), Sub.autoP⟩
      · refine sr_nil ?_
        refine aw_kp [0, 1, 5, 6, 21] ?_
        refine aw_false rfl ?_
        refine aw_skip ?_
        show ∃ s', _ ∧ _ ∧ _
        exact ⟨(), trivial, (by first | exact KeepF.auto | (rw [List.take_of_length_le (by omega)]; exact KeepF.auto)), Sub.autoP⟩
    · intro _ _
      obtain ⟨s, hse⟩ : ∃ s, s = s0.take 150 := ⟨_, rfl⟩
      have hsl : s.length ≤ 150 := by rw [hse, List.length_take]; omega
      rw [← hse]
      refine aw_seq ?_
      refine aw_seq_region ?_
      refine sr_as ?_
      refine sr_nil ?_
      refine aw_kp [0, 1, 5, 6, 7] ?_
      refine aw_block ?_
      refine aw_loop (ι := Nat) (fun k => k ≤ s.length ∧ (10 : UInt8) ∉ s.take k) (fun k => [(0, .slice sa xs.length scap), (1, .string (bs s)), (5, .pointer (some ⟨r0_0, 0, none⟩)), (6, .bool false), (7, .int .i64 k)]) (fun _ => [(r0_0, .cells e.cells.toArray 30 (0, 0))]) (fun k => s.length - k) 0 (⟨Nat.zero_le _, by simp⟩) KeepF.auto Sub.autoP ?_
      intro k hk
      refine aw_seq ?_
      refine aw_seq_region ?_
      refine sr_mv ?_
      refine sr_mv ?_
      refine sr_rd (x_lenB Tryd.underlying9 rfl) ?_
      refine sr_c (x_lt rfl rfl) (fun h3 => ?_) (fun h3 => ?_)
      · refine sr_nil ?_
        refine aw_kp [0, 1, 5, 6, 7, 24, 25, 26, 27] ?_
        refine aw_true rfl ?_
        refine aw_skip ?_
        show AW _ _ _ _ _ _ _
        refine aw_seq ?_
        refine aw_block ?_
        refine aw_seq_region ?_
        obtain ⟨x, hx⟩ := get_ex (show k < s.length by omega)
        refine sr_mv ?_
        refine sr_mv ?_
        refine sr_rd (x_indexB k Tryd.underlying9 rfl rfl (by first | rfl | omega) hx) ?_
        refine sr_c (x_eq rfl rfl) (fun h4 => ?_) (fun h4 => ?_)
        · refine sr_nil ?_
          refine aw_kp [0, 1, 5, 6, 7, 24, 25, 26, 27, 30, 31, 32, 33] ?_
          refine aw_true rfl ?_
          refine aw_seq_region ?_
          refine sr_d rfl (wtd_none rfl) rfl (opS_call rfl rfl rfl rfl cl18 (awake27_s _)) ?_
          rintro _ H9 ⟨rfl, rfl⟩
          refine sr_as ?_
          refine sr_nil ?_
          refine aw_kp [0, 1, 5, 6, 7, 24, 25, 26, 27, 30, 31, 32, 33, 34] ?_
          refine aw_ret ?_
          show ∃ v H2, ResV _ _ _ _ _ _ v ∧ Sub H2 _ ∧ _
          exact ⟨_, [], resV rfl (.cons rfl .nil), (Sub.nil _), rfl⟩
        · refine sr_nil ?_
          refine aw_kp [0, 1, 5, 6, 7, 24, 25, 26, 27, 30, 31, 32, 33] ?_
          refine aw_false rfl ?_
          refine aw_skip ?_
          show AW _ _ _ _ _ _ _
          refine aw_region ?_
          refine sr_mv ?_
          refine sr_rd (x_add' rfl rfl (i64w (by omega) (by omega))) ?_
          refine sr_as ?_
          refine sr_nil ?_
          show ∃ s', _ ∧ _ ∧ _ ∧ _
          exact ⟨k + 1, ⟨by omega, (by rw [takeS hx, List.mem_append, not_or]; exact ⟨hk.2, by rw [List.mem_singleton]; intro q; have q2 : x.toNat = 10 := (by rw [← q]; rfl); omega⟩)⟩, by omega, KeepF.auto, Sub.autoP⟩
      · refine sr_nil ?_
        refine aw_kp [0, 1, 5, 6, 7, 24, 25, 26, 27] ?_
        refine aw_false rfl ?_
        refine aw_exit ?_
        show AW _ _ _ _ _ _ _
        refine aw_seq_region ?_
        have hs10 : (10 : UInt8) ∉ s := by have := hk.2; rwa [List.take_of_length_le (by omega)] at this
        refine sr_as ?_
        refine sr_nil ?_
        refine aw_kp [0, 1, 5, 6, 8] ?_
        refine aw_seq_region ?_
        refine sr_as ?_
        refine sr_nil ?_
        refine aw_kp [0, 1, 5, 6, 8, 9] ?_
        refine aw_seq ?_
        refine aw_seq_region ?_
        refine sr_as ?_
        refine sr_nil ?_
        refine aw_kp [0, 1, 5, 6, 8, 9, 10] ?_
        refine aw_block ?_
        refine aw_loop (ι := Nat) (fun k => k ≤ xs.length) (fun k => [(0, .slice sa xs.length scap), (1, .string (bs s)), (5, .pointer (some ⟨r0_0, 0, none⟩)), (6, .bool false), (8, .string (bs (txtE (okE (xs.take k))))), (9, .int .i64 (okE (xs.take k)).length), (10, .int .i64 k)]) (fun _ => [(r0_0, .cells e.cells.toArray 30 (0, 0))]) (fun k => xs.length - k) 0 (Nat.zero_le _) KeepF.auto Sub.autoP ?_
        intro k hk9
        refine aw_seq ?_
        refine aw_seq_region ?_
        refine sr_mv ?_
        refine sr_mv ?_
        refine sr_rd (x_lenSlice Tryd.underlying24 rfl) ?_
        refine sr_c (x_lt rfl rfl) (fun h5 => ?_) (fun h5 => ?_)
        · refine sr_nil ?_
          refine aw_kp [0, 1, 5, 6, 8, 9, 10, 35, 36, 37, 38] ?_
          refine aw_true rfl ?_
          refine aw_skip ?_
          show AW _ _ _ _ _ _ _
          refine aw_seq ?_
          refine aw_block ?_
          refine aw_seq_region ?_
          obtain ⟨x, hx⟩ := get_ex (show k < xs.length by omega)
          obtain ⟨bx, ox, hax, hcx⟩ := (hs []).at_ k _ hx
          refine sr_mv ?_
          refine sr_mv ?_
          refine sr_rd (x_indexAddrN (k) Tryd.underlying24 sz30 rfl hax rfl (by omega) (by omega)) ?_
          refine sr_rd (x_loadN ag30 sz30 rfl (Cells.mono hcx (Sub.nil _)) rfl) ?_
          refine sr_d rfl (wtd_none rfl) rfl (opS_call rfl rfl rfl rfl cl20 (leright_s x _)) ?_
          rintro _ H9 ⟨rfl, rfl⟩
          generalize hd : decide (ERight x) = d1
          cases d1
          · refine sr_nil ?_
            refine aw_kp [0, 1, 5, 6, 8, 9, 10, 35, 36, 37, 38, 41, 42, 43, 44, 45] ?_
            refine aw_false rfl ?_
            refine aw_skip ?_
            show AW _ _ _ _ _ _ _
            refine aw_region ?_
            refine sr_mv ?_
            refine sr_rd (x_add' rfl rfl (i64w (by omega) (by omega))) ?_
            refine sr_as ?_
            refine sr_nil ?_
            show ∃ s', _ ∧ _ ∧ _ ∧ _
            first | exact ⟨k + 1, by omega, by omega, (by rw [okE_yes hx (of_decide_eq_true hd), txtE_snoc, List.length_append]; exact KeepF.auto), Sub.autoD⟩ | exact ⟨k + 1, by omega, by omega, (by rw [okE_no hx (of_decide_eq_false hd)]; exact KeepF.auto), Sub.autoD⟩
          · refine sr_nil ?_
            refine aw_kp [0, 1, 5, 6, 8, 9, 10, 35, 36, 37, 38, 41, 42, 43, 44, 45] ?_
            refine aw_true rfl ?_
            refine aw_seq_region ?_
            have htl := txtE_len (es := okE (xs.take k)) okE_all
            have hol := okE_len2 (xs := xs) (k := k)
            have hell := el_len (ewf_of (of_decide_eq_true hd))
            refine sr_mv ?_
            refine sr_mv ?_
            refine sr_mv ?_
            refine sr_rd (x_indexAddrN (k) Tryd.underlying24 sz30 rfl hax rfl (by omega) (by omega)) ?_
            refine sr_rd (x_loadN ag30 sz30 rfl (Cells.mono hcx (Sub.nil _)) rfl) ?_
            refine sr_d rfl (wtd_none rfl) rfl (opS_call rfl rfl rfl rfl cl21 (elline_s x (ewf_of (of_decide_eq_true hd)) _)) ?_
            rintro _ H9 ⟨rfl, rfl⟩
            refine sr_rd (x_catB rfl rfl (by omega)) ?_
            refine sr_rd (x_catB rfl rfl (by simp only [List.length_append, List.length_cons, List.length_nil]; omega)) ?_
            refine sr_as ?_
            refine sr_nil ?_
            refine aw_kp [0, 1, 5, 6, 8, 9, 10, 35, 36, 37, 38, 41, 42, 43, 44, 45, 46, 47, 48, 49, 50, 51, 52, 53] ?_
            refine aw_region ?_
            refine sr_mv ?_
            refine sr_rd (x_add' rfl rfl (i64w (by omega) (by omega))) ?_
            refine sr_as ?_
            refine sr_nil ?_
            show AW _ _ _ _ _ _ _
            refine aw_region ?_
            refine sr_mv ?_
            refine sr_rd (x_add' rfl rfl (i64w (by omega) (by omega))) ?_
            refine sr_as ?_
            refine sr_nil ?_
            show ∃ s', _ ∧ _ ∧ _ ∧ _
            first | exact ⟨k + 1, by omega, by omega, (by rw [okE_yes hx (of_decide_eq_true hd), txtE_snoc, List.length_append]; exact KeepF.auto), Sub.autoD⟩ | exact ⟨k + 1, by omega, by omega, (by rw [okE_no hx (of_decide_eq_false hd)]; exact KeepF.auto), Sub.autoD⟩
        · refine sr_nil ?_
          refine aw_kp [0, 1, 5, 6, 8, 9, 10, 35, 36, 37, 38] ?_
          refine aw_false rfl ?_
          refine aw_exit ?_
          show AW _ _ _ _ _ _ _
          refine aw_seq_region ?_
          rw [List.take_of_length_le (show xs.length ≤ k by omega)]
          have htl := txtE_len (es := okE xs) okE_all
          have hol := okE_len (xs := xs)
          refine sr_mv ?_
          refine sr_mv ?_
          refine sr_rd (x_catB rfl rfl (by omega)) ?_
          refine sr_d rfl (wtd_none rfl) rfl (opS_call rfl rfl rfl rfl cl19 (sread_s (txtE (okE xs) ++ s) (by rw [List.length_append]; omega) _)) ?_
          rintro _ _ ⟨a9, c9, E9, rfl, V9, rfl⟩
          rw [rd_es okE_all hs10 (by omega)] at V9 ⊢
          obtain ⟨hsn, hr⟩ | ⟨c0, r0, hsn, hc0, hr⟩ | ⟨c0, r0, hsn, hc0, hep, hr⟩ | ⟨c0, r0, x, hsn, hc0, hep, hr⟩ := rd_cases (okE xs) s (by omega)
          · rw [hr] at V9 ⊢
            refine sr_mv ?_
            refine sr_rd (x_extract rfl rfl) ?_
            refine sr_rd (x_extract rfl rfl) ?_
            refine sr_rd (x_extract rfl rfl) ?_
            refine sr_as ?_
            refine sr_as ?_
            refine sr_as ?_
            refine sr_nil ?_
            refine aw_kp [1, 5, 6, 9, 11, 12, 13] ?_
            refine aw_seq ?_
            refine aw_seq_region ?_
            refine sr_mv ?_
            refine sr_c (x_eqB rfl rfl) (fun h6 => ?_) (fun h6 => absurd (by first | exact hsn | (rw [hsn]; simp)) h6)
            refine sr_mv ?_
            refine sr_sk ?_
            refine sr_sk ?_
            refine sr_sk ?_
            refine sr_rd (x_pick_t rfl rfl rfl) ?_
            refine sr_nil ?_
            refine aw_kp [1, 5, 6, 9, 11, 12, 13, 70] ?_
            refine aw_true rfl ?_
            refine aw_seq_region ?_
            refine sr_mv ?_
            refine sr_c (x_eq rfl rfl) (fun h7 => ?_) (fun h7 => absurd (by rfl) h7)
            refine sr_mv ?_
            refine sr_ry (x_move rfl) ?_
            refine sr_ry (x_lenSlice Tryd.underlying24 rfl) ?_
            refine sr_ry (x_move rfl) ?_
            refine sr_cy (x_eq rfl rfl) (fun h8 => ?_) (fun h8 => absurd (by rfl) h8)
            refine sr_rd (x_pick_t rfl rfl rfl) ?_
            refine sr_mv ?_
            refine sr_d rfl (wtd_yes rfl rfl rfl) rfl (opS_call rfl rfl rfl rfl cl18 (awake27_s _)) ?_
            rintro _ H9 ⟨rfl, rfl⟩
            refine sr_rd (x_pick_t rfl rfl rfl) ?_
            refine sr_as ?_
            refine sr_nil ?_
            refine aw_kp [1, 5, 6, 9, 11, 12, 13] ?_
            refine aw_ret ?_
            show ∃ v H2, ResV _ _ _ _ _ _ v ∧ Sub H2 _ ∧ _
            exact ⟨_, [], resV rfl (.cons rfl .nil), (Sub.nil _), rfl⟩
          · rw [hr] at V9 ⊢
            have hx0 : s[0]? = some c0 := by rw [hsn]; rfl
            have hsl1 : 0 < s.length := by rw [hsn]; simp
            refine sr_mv ?_
            refine sr_rd (x_extract rfl rfl) ?_
            refine sr_rd (x_extract rfl rfl) ?_
            refine sr_rd (x_extract rfl rfl) ?_
            refine sr_as ?_
            refine sr_as ?_
            refine sr_as ?_
            refine sr_nil ?_
            refine aw_kp [1, 5, 6, 9, 11, 12, 13] ?_
            refine aw_seq ?_
            refine aw_seq_region ?_
            refine sr_mv ?_
            refine sr_c (x_eqB rfl rfl) (fun h9 => absurd h9 (by first | exact hsn | (rw [hsn]; simp))) (fun h9 => ?_)
            refine sr_mv ?_
            refine sr_ry (x_move rfl) ?_
            refine sr_ry (x_indexB 0 Tryd.underlying9 rfl rfl (by first | rfl | omega) hx0) ?_
            refine sr_cy (x_eq rfl rfl) (fun h10 => ?_) (fun h10 => absurd (by first | (rw [hc0]; rfl) | exact fun q => hc0 (UInt8.toNat_inj.1 (show c0.toNat = 59 by omega))) h10)
            refine sr_rd (x_pick_f rfl rfl rfl) ?_
            refine sr_nil ?_
            refine aw_kp [1, 5, 6, 9, 11, 12, 13, 70] ?_
            refine aw_true rfl ?_
            refine aw_seq_region ?_
            refine sr_mv ?_
            refine sr_c (x_eq rfl rfl) (fun h11 => ?_) (fun h11 => absurd (by rfl) h11)
            refine sr_mv ?_
            refine sr_ry (x_move rfl) ?_
            refine sr_ry (x_lenSlice Tryd.underlying24 rfl) ?_
            refine sr_ry (x_move rfl) ?_
            refine sr_cy (x_eq rfl rfl) (fun h12 => ?_) (fun h12 => absurd (by rfl) h12)
            refine sr_rd (x_pick_t rfl rfl rfl) ?_
            refine sr_mv ?_
            refine sr_d rfl (wtd_yes rfl rfl rfl) rfl (opS_call rfl rfl rfl rfl cl18 (awake27_s _)) ?_
            rintro _ H9 ⟨rfl, rfl⟩
            refine sr_rd (x_pick_t rfl rfl rfl) ?_
            refine sr_as ?_
            refine sr_nil ?_
            refine aw_kp [1, 5, 6, 9, 11, 12, 13] ?_
            refine aw_ret ?_
            show ∃ v H2, ResV _ _ _ _ _ _ v ∧ Sub H2 _ ∧ _
            exact ⟨_, [], resV rfl (.cons rfl .nil), (Sub.nil _), rfl⟩
          · rw [hr] at V9 ⊢
            have hx0 : s[0]? = some c0 := by rw [hsn]; rfl
            have hsl1 : 0 < s.length := by rw [hsn]; simp
            refine sr_mv ?_
            refine sr_rd (x_extract rfl rfl) ?_
            refine sr_rd (x_extract rfl rfl) ?_
            refine sr_rd (x_extract rfl rfl) ?_
            refine sr_as ?_
            refine sr_as ?_
            refine sr_as ?_
            refine sr_nil ?_
            refine aw_kp [1, 5, 6, 9, 11, 12, 13] ?_
            refine aw_seq ?_
            refine aw_seq_region ?_
            refine sr_mv ?_
            refine sr_c (x_eqB rfl rfl) (fun h13 => absurd h13 (by first | exact hsn | (rw [hsn]; simp))) (fun h13 => ?_)
            refine sr_mv ?_
            refine sr_ry (x_move rfl) ?_
            refine sr_ry (x_indexB 0 Tryd.underlying9 rfl rfl (by first | rfl | omega) hx0) ?_
            refine sr_cy (x_eq rfl rfl) (fun h14 => absurd h14 (by first | (rw [hc0]; rfl) | exact fun q => hc0 (UInt8.toNat_inj.1 (show c0.toNat = 59 by omega)))) (fun h14 => ?_)
            refine sr_rd (x_pick_f rfl rfl rfl) ?_
            refine sr_nil ?_
            refine aw_kp [1, 5, 6, 9, 11, 12, 13, 70] ?_
            refine aw_false rfl ?_
            refine aw_skip ?_
            show AW _ _ _ _ _ _ _
            refine aw_seq ?_
            refine aw_seq_region ?_
            refine sr_mv ?_
            refine sr_c (x_ne rfl rfl) (fun h15 => ?_) (fun h15 => absurd (by first | (show (4 : Int) ≠ 0; decide) | exact fun h => h rfl) h15)
            refine sr_nil ?_
            refine aw_kp [1, 5, 6, 9, 11, 12, 13, 83] ?_
            refine aw_true rfl ?_
            refine aw_seq_region ?_
            refine sr_mv ?_
            refine sr_rd (x_lenSlice Tryd.underlying24 rfl) ?_
            refine sr_c (x_eq rfl rfl) (fun h16 => ?_) (fun h16 => absurd (by rfl) h16)
            refine sr_mv ?_
            refine sr_ry (x_move rfl) ?_
            refine sr_ry (x_move rfl) ?_
            refine sr_cy (x_eq rfl rfl) (fun h17 => ?_) (fun h17 => absurd (by rfl) h17)
            refine sr_rd (x_pick_t rfl rfl rfl) ?_
            refine sr_mv ?_
            refine sr_ry (x_move rfl) ?_
            refine sr_cy (x_eq rfl rfl) (fun h18 => ?_) (fun h18 => absurd (by rfl) h18)
            refine sr_rd (x_pick_t rfl rfl rfl) ?_
            refine sr_mv ?_
            refine sr_ry (x_loadN ag30 sz30 rfl (cells_ext mauto Ext.auto) rfl) ?_
            refine sr_d rfl (wtd_yes rfl rfl rfl) rfl (opS_call rfl rfl rfl rfl cl20 (leright_s e _)) ?_
            rintro _ H9 ⟨rfl, rfl⟩
            generalize hd : decide (ERight e) = d1
            cases d1
            · refine sr_ry (x_not rfl) ?_
              refine sr_ry (x_move rfl) ?_
              refine sr_sk ?_
              refine sr_sk ?_
              refine sr_sk ?_
              refine sr_sk ?_
              refine sr_ry (x_pick_t rfl rfl rfl) ?_
              refine sr_rd (x_pick_t rfl rfl rfl) ?_
              refine sr_mv ?_
              refine sr_d rfl (wtd_yes rfl rfl rfl) rfl (opS_call rfl rfl rfl rfl cl18 (awake27_s _)) ?_
              rintro _ H9 ⟨rfl, rfl⟩
              refine sr_rd (x_pick_t rfl rfl rfl) ?_
              refine sr_as ?_
              refine sr_nil ?_
              refine aw_kp [1, 6, 9, 11] ?_
              refine aw_ret ?_
              show ∃ v H2, ResV _ _ _ _ _ _ v ∧ Sub H2 _ ∧ _
              exact ⟨_, [], resV rfl (.cons rfl .nil), (Sub.nil _), rfl⟩
            · refine sr_ry (x_not rfl) ?_
              refine sr_ry (x_move rfl) ?_
              refine sr_ry (x_move rfl) ?_
              refine sr_ry (x_loadN ag30 sz30 rfl (cells_ext mauto Ext.auto) rfl) ?_
              refine sr_d rfl (wtd_yes rfl rfl rfl) rfl (opS_call rfl rfl rfl rfl cl21 (elline_s e hwl.w _)) ?_
              rintro _ H9 ⟨rfl, rfl⟩
              refine sr_cy (x_neB rfl rfl) (fun h19 => ?_) (fun h19 => absurd (by exact fun q => by rw [q, eparse_el (of_decide_eq_true hd)] at hep; cases hep) h19)
              refine sr_ry (x_pick_f rfl rfl rfl) ?_
              refine sr_rd (x_pick_t rfl rfl rfl) ?_
              refine sr_mv ?_
              refine sr_d rfl (wtd_yes rfl rfl rfl) rfl (opS_call rfl rfl rfl rfl cl18 (awake27_s _)) ?_
              rintro _ H9 ⟨rfl, rfl⟩
              refine sr_rd (x_pick_t rfl rfl rfl) ?_
              refine sr_as ?_
              refine sr_nil ?_
              refine aw_kp [1, 6, 9, 11] ?_
              refine aw_ret ?_
              show ∃ v H2, ResV _ _ _ _ _ _ v ∧ Sub H2 _ ∧ _
              exact ⟨_, [], resV rfl (.cons rfl .nil), (Sub.nil _), rfl⟩
          · rw [hr] at V9 ⊢
            have hx0 : s[0]? = some c0 := by rw [hsn]; rfl
            have hsl1 : 0 < s.length := by rw [hsn]; simp
            obtain ⟨hrx, hlx⟩ := eparse_inv hep
            obtain ⟨bx, ox, hax, hcx⟩ := (V9.slv' (W0 := W0) (xs := okE xs ++ [x]) (fun _ => rfl) rfl (Sub.refl _)).at_ (okE xs).length x (by rw [List.getElem?_append_right (Nat.le_refl _), Nat.sub_self]; rfl)
            have hl9 : (okE xs ++ [x]).length = (okE xs).length + 1 := by rw [List.length_append]; rfl
            refine sr_mv ?_
            refine sr_rd (x_extract rfl rfl) ?_
            refine sr_rd (x_extract rfl rfl) ?_
            refine sr_rd (x_extract rfl rfl) ?_
            refine sr_as ?_
            refine sr_as ?_
            refine sr_as ?_
            refine sr_nil ?_
            refine aw_kp [1, 5, 6, 9, 11, 12, 13] ?_
            refine aw_seq ?_
            refine aw_seq_region ?_
            refine sr_mv ?_
            refine sr_c (x_eqB rfl rfl) (fun h20 => absurd h20 (by first | exact hsn | (rw [hsn]; simp))) (fun h20 => ?_)
            refine sr_mv ?_
            refine sr_ry (x_move rfl) ?_
            refine sr_ry (x_indexB 0 Tryd.underlying9 rfl rfl (by first | rfl | omega) hx0) ?_
            refine sr_cy (x_eq rfl rfl) (fun h21 => absurd h21 (by first | (rw [hc0]; rfl) | exact fun q => hc0 (UInt8.toNat_inj.1 (show c0.toNat = 59 by omega)))) (fun h21 => ?_)
            refine sr_rd (x_pick_f rfl rfl rfl) ?_
            refine sr_nil ?_
            refine aw_kp [1, 5, 6, 9, 11, 12, 13, 70] ?_
            refine aw_false rfl ?_
            refine aw_skip ?_
            show AW _ _ _ _ _ _ _
            refine aw_seq ?_
            refine aw_seq_region ?_
            refine sr_mv ?_
            refine sr_c (x_ne rfl rfl) (fun h22 => absurd h22 (by first | (show (4 : Int) ≠ 0; decide) | exact fun h => h rfl)) (fun h22 => ?_)
            refine sr_nil ?_
            refine aw_kp [1, 5, 6, 9, 11, 12, 13, 83] ?_
            refine aw_false rfl ?_
            refine aw_skip ?_
            show AW _ _ _ _ _ _ _
            refine aw_seq_region ?_
            refine sr_mv ?_
            refine sr_rd (x_lenSlice Tryd.underlying24 rfl) ?_
            refine sr_mv ?_
            refine sr_rd (x_add' rfl rfl (i64w (by omega) (by omega))) ?_
            refine sr_c (x_eq rfl rfl) (fun h23 => ?_) (fun h23 => absurd (by rw [hl9]; rfl) h23)
            refine sr_mv ?_
            refine sr_ry (x_move rfl) ?_
            refine sr_ry (x_move rfl) ?_
            refine sr_ry (x_indexAddrN ((okE xs).length) Tryd.underlying24 sz30 rfl hax rfl (by omega) (by omega)) ?_
            refine sr_ry (x_loadN ag30 sz30 rfl (Cells.mono hcx Sub.autoE) rfl) ?_
            refine sr_d rfl (wtd_yes rfl rfl rfl) rfl (opS_call rfl rfl rfl rfl cl20 (leright_s x _)) ?_
            rintro _ H9 ⟨rfl, rfl⟩
            rw [decide_eq_true hrx]
            refine sr_rd (x_pick_t rfl rfl rfl) ?_
            refine sr_mv ?_
            refine sr_ry (x_move rfl) ?_
            refine sr_ry (x_move rfl) ?_
            refine sr_ry (x_indexAddrN ((okE xs).length) Tryd.underlying24 sz30 rfl hax rfl (by omega) (by omega)) ?_
            refine sr_ry (x_loadN ag30 sz30 rfl (Cells.mono hcx Sub.autoE) rfl) ?_
            refine sr_d rfl (wtd_yes rfl rfl rfl) rfl (opS_call rfl rfl rfl rfl cl21 (elline_s x (ewf_of hrx) _)) ?_
            rintro _ H9 ⟨rfl, rfl⟩
            rw [hlx]
            refine sr_ry (x_move rfl) ?_
            refine sr_cy (x_eqB rfl rfl) (fun h24 => ?_) (fun h24 => absurd (by rfl) h24)
            refine sr_rd (x_pick_t rfl rfl rfl) ?_
            refine sr_mv ?_
            refine sr_d rfl (wtd_yes rfl rfl rfl) rfl (opS_call rfl rfl rfl rfl cl18 (awake27_s _)) ?_
            rintro _ H9 ⟨rfl, rfl⟩
            refine sr_rd (x_pick_t rfl rfl rfl) ?_
            refine sr_as ?_
            refine sr_nil ?_
            refine aw_kp [6] ?_
            refine aw_ret ?_
            show ∃ v H2, ResV _ _ _ _ _ _ v ∧ Sub H2 _ ∧ _
            exact ⟨_, [], resV rfl (.cons rfl .nil), (Sub.nil _), rfl⟩
end
namespace SwfReadsRow
open Go.ChangeShapes Go.WideShapes Go.ChangeAt Go.RowKit
theorem own : ownKnob Tryd.prog.godebug = none := by kernel_rfl
theorem laidOut : laidOutB Tryd.prog = true := by kernel_rfl
def laid : List (String × DataW Unit) := [("unicode/utf8.acceptRanges", Rows.laid_unicode_utf8_acceptRanges), ("unicode/utf8.first", Rows.laid_unicode_utf8_first)]
set_option maxRecDepth 100000 in
theorem lifted (os : Os) (started : os.Started) (H : Type) (enc : TypeId × Value → H) :
    ReturnsInHanded {} Tryd.checked os 4 .any (fun w args => (Rows.swfReadsSpec.pre enc Tryd.prog Tryd.f4 [] false w args ∧ laidMetH Tryd.prog laid w) ∧ sizedMet enc Tryd.prog Tryd.f4 (OpenSpec.ofChange Rows.swfReadsSpec) false w args)
      (Rows.swfReadsSpec.post enc Tryd.prog Tryd.f4 false true false false) := by
  refine law_lifted_laid (C := Tryd.checked) (tb := 4) (laid := laid) own started (by kernel_rfl) Tryd.func4
    (ChangeSpec.witness_shaped (enc := enc) (C := Tryd.checked) (os := os) (X := fun w _ => laidMetH Tryd.prog laid w) false (World.laidAll Tryd.prog os laid) #[.slice none 0 0, .string .empty, .agg #[.int .i64 0, .int .i64 0, .int .i64 0, .int .i64 0, .int .i64 0, .int .i64 0]] 8 (World.laidAll_os _ _ _)
      (World.shaped_of_ZipB (by kernel_rfl) (by kernel_rfl)) (by kernel_rfl) (by kernel_rfl) (by kernel_rfl)
      (by rw [MakeChecks.laidMetH_plain _ _ _ (by kernel_rfl)]; exact laidMet_laidAll _ (by kernel_rfl) (by kernel_rfl)))
    (fun w => MakeChecks.laidMetH_plain _ _ _ (by kernel_rfl)) rfl Tryd.underlying4 rfl laidOut (by kernel_rfl) ?_ ?_
  · intro ds h
    match ds, h with
    | [a0, a1, a2], _ => rfl
  · intro W base args ds ps hval hA hlt hsz
    have hA' : DataW.TrodAll enc Tryd.prog W 0 (fun _ => true) true [24, 9, 30] args ds ps := hA
    clear hA
    obtain ⟨v0, vs0, d0, ds0, p0, q0, rfl, rfl, rfl, h0, r0⟩ := trodAll_cons hA'
    obtain ⟨v1, vs1, d1, ds1, p1, q1, rfl, rfl, rfl, h1, r1⟩ := trodAll_cons r0
    obtain ⟨v2, vs2, d2, ds2, p2, q2, rfl, rfl, rfl, h2, r2⟩ := trodAll_cons r1
    obtain ⟨rfl, rfl, rfl⟩ := trodAll_nil r2
    obtain ⟨a, cap, xs, rfl, hs, _⟩ := opn_slice Tryd.underlying24 cells30 (by decide) (fun fuel cs x h => read_Ent h) (hval 0 24 v0 rfl rfl) h0
    obtain ⟨s, rfl, _⟩ := opn_str Tryd.underlying9 (hval 1 9 v1 rfl rfl) h1
    obtain ⟨e, rfl, he⟩ := open_Ent (hval 2 30 v2 rfl rfl) h2
    rw [bs_all s]
    exact swfReads_s a cap xs hs _ e he
theorem joined : joinedFacts Tryd.prog 4 Tryd.f4 Rows.swfReadsSpec Rows.swfReadsRow = true := by
  unfold joinedFacts
  rw [cutMay, cutLif, cutMk]
  kernel_rfl
theorem over : Rows.swfReadsRow.holds Tryd.pinned (OpenSpec.ofChange Rows.swfReadsSpec) :=
  OpenClaim.holds_of_wide 4 Tryd.f4 rfl rfl rfl rfl rfl rfl rfl ⟨rfl, rfl, rfl, rfl, rfl⟩ rfl rfl rfl rfl rfl (by kernel_rfl) Tryd.func4 joined
    (of_decide_eq_true (by kernel_rfl)) (by unfold Func.isWrapper; first | (rw [if_pos (by decide +kernel)]; kernel_rfl) | (rw [if_neg (by decide +kernel)]; exact ⟨rfl, rfl⟩))
    (fun os started H enc _ => lifted os started H enc)
theorem proved : Rows.SwfReadsCardSaid :=
  Claim7.holds_tied_plain_at .later [] [.data, .pinned] true (true, "426c9bee184f4b528ab0760080dc1cc7cd819b0490f5c9691bd34e83eb6dee88") false over (fun _ h => by cases h) (by kernel_rfl) (fun _ h => by cases h) swfReads_row_tie rfl ⟨rfl, rfl⟩ (by kernel_rfl) rfl
    (fun f fn hf hfn => by
      obtain rfl : f = 4 := Option.some.inj ((show Tryd.prog.funcNamed "berthage/berthagelaw27.SwfReads" = some 4 by kernel_rfl).symm.trans hf) |>.symm
      obtain rfl : fn = Tryd.f4 := (Option.some.inj (Tryd.func4.symm.trans hfn)).symm
      exact ⟨by kernel_rfl, fun j t ht => by
        have ht' : (#[24, 9, 30] : Array TypeId)[j]? = some t := ht
        have hm : t ∈ [24, 9, 30] := by simpa using Array.mem_of_getElem? ht'
        have hall : ([24, 9, 30].all fun u => !Tryd.prog.wantsStandIn u) = true := by kernel_rfl
        exact (show Tryd.prog.wantsStandIn t = false by simpa using List.all_eq_true.1 hall t hm)⟩)
    (by kernel_rfl)
#print axioms proved
end SwfReadsRow
end Go.Proofs.YtbcajgkaepihfaaDoor
