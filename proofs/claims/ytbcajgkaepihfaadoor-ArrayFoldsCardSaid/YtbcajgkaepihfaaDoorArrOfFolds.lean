/- Any numbers are told in parts, and the parts' numbers are what was folded; no condition but that the listed variables lie as the program's text lays them. -/
import Derived.Test.YtbcajgkaepihfaaDoorSgf
import Derived.Test.YtbcajgkaepihfaaDoorSymLaid
import Derived.Test.YtbcajgkaepihfaaDoorRows
import Derived.Test.YtbcajgkaepihfaaDoorCards
import Derived.Test.YtbcajgkaepihfaaDoorTie
import Derived.Test.YtbcajgkaepihfaaDoorCut
import Derived.SevenTiedAt
namespace Go.Proofs.YtbcajgkaepihfaaDoor
open Go.Proofs.YtbcajgkaepihfaaDoor.Sym
open Go.RowKit (Below)
set_option linter.unusedVariables false
set_option linter.unusedSimpArgs false
theorem cells3 : Tryd.prog.cellsOf 3 = 1 := by kernel_rfl
theorem cl43 : Callable Tryd.prog 43 := ⟨Tryd.f43, Tryd.func43, by kernel_rfl, by kernel_rfl⟩
theorem cl46 : Callable Tryd.prog 46 := ⟨Tryd.f46, Tryd.func46, by kernel_rfl, by kernel_rfl⟩
theorem cl47 : Callable Tryd.prog 47 := ⟨Tryd.f47, Tryd.func47, by kernel_rfl, by kernel_rfl⟩
theorem cl48 : Callable Tryd.prog 48 := ⟨Tryd.f48, Tryd.func48, by kernel_rfl, by kernel_rfl⟩
theorem ks67 : kindsOf Tryd.prog 67 = some [.int, .int, .int] := by kernel_rfl
theorem read_intC {H : Type} {enc : TypeId × Value → H} {w : World} {base : Nat} {spare : Nat → Bool} {held : Bool} {fuel : Nat} {cs : List Value} {x : DataW H × List MemPlace} (h : DataW.trod enc Tryd.prog w base spare held fuel 3 cs = some x) : ∃ j : Int, cs = intC j ∧ True := by
  obtain ⟨n, h1, _, h2⟩ := DataW.trod_int Tryd.underlying3 h
  exact ⟨n, h1, trivial⟩

section
variable {W0 : World}
set_option maxRecDepth 100000 in
set_option maxHeartbeats 4000000 in
theorem arrayFolds_s (sa : Option Addr) (scap : Nat) (l : List Int) (hs0 : ∀ G, SlV W0 G 1 intC sa scap l) : AC Tryd.prog W0 15 [.slice sa l.length scap] [] (fun v _ => v = .bool true) := by
  have hle0 := (hs0 []).le
  have hcb0 := (hs0 []).capb
  refine ac_of Tryd.func15 rfl rfl rfl ?_
  refine aw_seq_region ?_
  refine sr_as ?_
  refine sr_nil ?_
  refine aw_kp [0, 2] ?_
  refine aw_join (ι := Unit) (fun _ => True) (fun _ => [(0, .slice sa (l.take 60).length scap), (2, .bool false)]) (fun _ => []) ?_ ?_
  · refine aw_seq_region ?_
    refine sr_mv ?_
    refine sr_rd (x_lenSlice Tryd.underlying69 rfl) ?_
    refine sr_c (x_gt rfl rfl) (fun h1 => ?_) (fun h1 => ?_)
    · refine sr_nil ?_
      refine aw_kp [0, 2, 17] ?_
      refine aw_true rfl ?_
      refine aw_region ?_
      refine sr_mv ?_
      refine sr_rd (x_cast (u := .slice sa (l.take 60).length scap) (x_sliceHi Tryd.underlying69 sz3 rfl rfl (by omega) (by omega)) (by rw [List.length_take]; congr 1; omega)) ?_
      refine sr_as ?_
      refine sr_nil ?_
      show ∃ s', _ ∧ _ ∧ _
      exact ⟨(), trivial, (by first | exact KeepF.auto | (rw [List.take_of_length_le (by omega)]; exact KeepF.auto)), Sub.autoP⟩
    · refine sr_nil ?_
      refine aw_kp [0, 2, 17] ?_
      refine aw_false rfl ?_
      refine aw_skip ?_
      show ∃ s', _ ∧ _ ∧ _
      exact ⟨(), trivial, (by first | exact KeepF.auto | (rw [List.take_of_length_le (by omega)]; exact KeepF.auto)), Sub.autoP⟩
  · intro _ _
    obtain ⟨xs, hxs⟩ : ∃ xs, xs = l.take 60 := ⟨_, rfl⟩
    have hs : ∀ G, SlV W0 G 1 intC sa scap xs := fun G => hxs ▸ (hs0 G).take 60
    have hx60 : xs.length ≤ 60 := by rw [hxs, List.length_take]; omega
    rw [← hxs]
    have hle := (hs []).le
    have hcb := (hs []).capb
    refine aw_seq_region ?_
    refine sr_as ?_
    refine sr_nil ?_
    refine aw_kp [0, 2, 3] ?_
    refine aw_seq ?_
    refine aw_seq_region ?_
    refine sr_as ?_
    refine sr_nil ?_
    refine aw_kp [0, 2, 3, 4] ?_
    refine aw_block ?_
    refine aw_loop (ι := Nat × Bool) (fun s => s.1 ≤ xs.length ∧ s.2 = smallB xs s.1 ∧ ∀ x ∈ xs.take s.1, Rng x) (fun t => [(0, .slice sa xs.length scap), (2, .bool false), (3, .bool t.2), (4, .int .i64 (t.1 : Nat))]) (fun _ => []) (fun t => xs.length - t.1) (0, true) (⟨Nat.zero_le _, rfl, by simp⟩) KeepF.auto Sub.autoP ?_
    intro t ht
    obtain ⟨k, b⟩ := t
    dsimp only at ht ⊢
    obtain ⟨hk, hb, hr⟩ := ht
    refine aw_seq ?_
    refine aw_seq_region ?_
    refine sr_mv ?_
    refine sr_mv ?_
    refine sr_rd (x_lenSlice Tryd.underlying69 rfl) ?_
    refine sr_c (x_lt rfl rfl) (fun h2 => ?_) (fun h2 => ?_)
    · refine sr_nil ?_
      refine aw_kp [0, 2, 3, 4, 20, 21, 22, 23] ?_
      refine aw_true rfl ?_
      refine aw_skip ?_
      show AW _ _ _ _ _ _ _
      refine aw_seq ?_
      refine aw_block ?_
      refine aw_seq ?_
      refine aw_seq_region ?_
      obtain ⟨x, hx⟩ := get_ex (show k < xs.length by omega)
      obtain ⟨bx, ox, hax, hcx⟩ := (hs []).at_ k _ hx
      refine sr_mv ?_
      refine sr_mv ?_
      refine sr_rd (x_indexAddrN (k) Tryd.underlying69 sz3 rfl hax rfl (by omega) (by omega)) ?_
      refine sr_rd (x_load ag3 rfl (Cells.mono hcx Sub.autoR)) ?_
      refine sr_c (x_lt rfl rfl) (fun h3 => ?_) (fun h3 => ?_)
      · refine sr_mv ?_
        refine sr_sk ?_
        refine sr_sk ?_
        refine sr_sk ?_
        refine sr_sk ?_
        refine sr_sk ?_
        refine sr_rd (x_pick_t rfl rfl rfl) ?_
        refine sr_nil ?_
        refine aw_kp [0, 2, 3, 4, 20, 21, 22, 23, 26, 27, 28, 29, 30, 31, 32, 33, 34, 35, 36, 37] ?_
        refine aw_true rfl ?_
        refine aw_seq_region ?_
        refine sr_d rfl (wtd_none rfl) rfl (opS_call rfl rfl rfl rfl cl43 (awake35_s _)) ?_
        rintro _ H9 ⟨rfl, rfl⟩
        refine sr_as ?_
        refine sr_nil ?_
        refine aw_kp [0, 2, 3, 4, 20, 21, 22, 23, 26, 27, 28, 29, 30, 31, 32, 33, 34, 35, 36, 37, 38] ?_
        refine aw_ret ?_
        show ∃ v H2, ResV _ _ _ _ _ _ v ∧ Sub H2 _ ∧ _
        exact ⟨_, [], resV rfl (.cons rfl .nil), (Sub.nil _), rfl⟩
      · refine sr_mv ?_
        refine sr_ry (x_move rfl) ?_
        refine sr_ry (x_move rfl) ?_
        refine sr_ry (x_indexAddrN (k) Tryd.underlying69 sz3 rfl hax rfl (by omega) (by omega)) ?_
        refine sr_ry (x_load ag3 rfl (Cells.mono hcx Sub.autoR)) ?_
        refine sr_cy (x_gt rfl rfl) (fun h4 => ?_) (fun h4 => ?_)
        · refine sr_rd (x_pick_f rfl rfl rfl) ?_
          refine sr_nil ?_
          refine aw_kp [0, 2, 3, 4, 20, 21, 22, 23, 26, 27, 28, 29, 30, 31, 32, 33, 34, 35, 36, 37] ?_
          refine aw_true rfl ?_
          refine aw_seq_region ?_
          refine sr_d rfl (wtd_none rfl) rfl (opS_call rfl rfl rfl rfl cl43 (awake35_s _)) ?_
          rintro _ H9 ⟨rfl, rfl⟩
          refine sr_as ?_
          refine sr_nil ?_
          refine aw_kp [0, 2, 3, 4, 20, 21, 22, 23, 26, 27, 28, 29, 30, 31, 32, 33, 34, 35, 36, 37, 38] ?_
          refine aw_ret ?_
          show ∃ v H2, ResV _ _ _ _ _ _ v ∧ Sub H2 _ ∧ _
          exact ⟨_, [], resV rfl (.cons rfl .nil), (Sub.nil _), rfl⟩
        · refine sr_rd (x_pick_f rfl rfl rfl) ?_
          refine sr_nil ?_
          refine aw_kp [0, 2, 3, 4, 20, 21, 22, 23, 26, 27, 28, 29, 30, 31, 32, 33, 34, 35, 36, 37] ?_
          refine aw_false rfl ?_
          refine aw_skip ?_
          show AW _ _ _ _ _ _ _
          refine aw_region ?_
          cases b
          · refine sr_mv ?_
            refine sr_mv ?_
            refine sr_sk ?_
            refine sr_sk ?_
            refine sr_sk ?_
            refine sr_sk ?_
            refine sr_sk ?_
            refine sr_rd (x_pick_f rfl rfl rfl) ?_
            refine sr_mv ?_
            refine sr_sk ?_
            refine sr_sk ?_
            refine sr_sk ?_
            refine sr_sk ?_
            refine sr_sk ?_
            refine sr_rd (x_pick_f rfl rfl rfl) ?_
            refine sr_as ?_
            refine sr_nil ?_
            show AW _ _ _ _ _ _ _
            refine aw_region ?_
            refine sr_mv ?_
            refine sr_rd (x_add' rfl rfl (i64w (by omega) (by omega))) ?_
            refine sr_as ?_
            refine sr_nil ?_
            show ∃ s', _ ∧ _ ∧ _ ∧ _
            first | exact ⟨(k + 1, true), ⟨by dsimp only; omega, (by dsimp only; rw [smallB_s hx, ← hb, decide_eq_true (by omega), decide_eq_true (by omega)]; rfl), rng_s hr hx (by omega) (by omega)⟩, by dsimp only; omega, KeepF.auto, Sub.autoD⟩ | exact ⟨(k + 1, false), ⟨by dsimp only; omega, (by dsimp only; rw [smallB_s hx, ← hb]; first | rfl | (rw [decide_eq_false (p := 0 ≤ x) (by omega)]; rfl) | (rw [decide_eq_false (p := x ≤ 9999) (by omega)]; simp)), rng_s hr hx (by omega) (by omega)⟩, by dsimp only; omega, KeepF.auto, Sub.autoD⟩
          · refine sr_mv ?_
            refine sr_mv ?_
            refine sr_ry (x_move rfl) ?_
            refine sr_ry (x_move rfl) ?_
            refine sr_ry (x_indexAddrN (k) Tryd.underlying69 sz3 rfl hax rfl (by omega) (by omega)) ?_
            refine sr_ry (x_load ag3 rfl (Cells.mono hcx Sub.autoR)) ?_
            refine sr_cy (x_ge rfl rfl) (fun h5 => ?_) (fun h5 => ?_)
            · refine sr_rd (x_pick_t rfl rfl rfl) ?_
              refine sr_mv ?_
              refine sr_ry (x_move rfl) ?_
              refine sr_ry (x_move rfl) ?_
              refine sr_ry (x_indexAddrN (k) Tryd.underlying69 sz3 rfl hax rfl (by omega) (by omega)) ?_
              refine sr_ry (x_load ag3 rfl (Cells.mono hcx Sub.autoR)) ?_
              refine sr_cy (x_le rfl rfl) (fun h6 => ?_) (fun h6 => ?_)
              · refine sr_rd (x_pick_t rfl rfl rfl) ?_
                refine sr_as ?_
                refine sr_nil ?_
                show AW _ _ _ _ _ _ _
                refine aw_region ?_
                refine sr_mv ?_
                refine sr_rd (x_add' rfl rfl (i64w (by omega) (by omega))) ?_
                refine sr_as ?_
                refine sr_nil ?_
                show ∃ s', _ ∧ _ ∧ _ ∧ _
                first | exact ⟨(k + 1, true), ⟨by dsimp only; omega, (by dsimp only; rw [smallB_s hx, ← hb, decide_eq_true (by omega), decide_eq_true (by omega)]; rfl), rng_s hr hx (by omega) (by omega)⟩, by dsimp only; omega, KeepF.auto, Sub.autoD⟩ | exact ⟨(k + 1, false), ⟨by dsimp only; omega, (by dsimp only; rw [smallB_s hx, ← hb]; first | rfl | (rw [decide_eq_false (p := 0 ≤ x) (by omega)]; rfl) | (rw [decide_eq_false (p := x ≤ 9999) (by omega)]; simp)), rng_s hr hx (by omega) (by omega)⟩, by dsimp only; omega, KeepF.auto, Sub.autoD⟩
              · refine sr_rd (x_pick_t rfl rfl rfl) ?_
                refine sr_as ?_
                refine sr_nil ?_
                show AW _ _ _ _ _ _ _
                refine aw_region ?_
                refine sr_mv ?_
                refine sr_rd (x_add' rfl rfl (i64w (by omega) (by omega))) ?_
                refine sr_as ?_
                refine sr_nil ?_
                show ∃ s', _ ∧ _ ∧ _ ∧ _
                first | exact ⟨(k + 1, true), ⟨by dsimp only; omega, (by dsimp only; rw [smallB_s hx, ← hb, decide_eq_true (by omega), decide_eq_true (by omega)]; rfl), rng_s hr hx (by omega) (by omega)⟩, by dsimp only; omega, KeepF.auto, Sub.autoD⟩ | exact ⟨(k + 1, false), ⟨by dsimp only; omega, (by dsimp only; rw [smallB_s hx, ← hb]; first | rfl | (rw [decide_eq_false (p := 0 ≤ x) (by omega)]; rfl) | (rw [decide_eq_false (p := x ≤ 9999) (by omega)]; simp)), rng_s hr hx (by omega) (by omega)⟩, by dsimp only; omega, KeepF.auto, Sub.autoD⟩
            · refine sr_rd (x_pick_t rfl rfl rfl) ?_
              refine sr_mv ?_
              refine sr_sk ?_
              refine sr_sk ?_
              refine sr_sk ?_
              refine sr_sk ?_
              refine sr_sk ?_
              refine sr_rd (x_pick_f rfl rfl rfl) ?_
              refine sr_as ?_
              refine sr_nil ?_
              show AW _ _ _ _ _ _ _
              refine aw_region ?_
              refine sr_mv ?_
              refine sr_rd (x_add' rfl rfl (i64w (by omega) (by omega))) ?_
              refine sr_as ?_
              refine sr_nil ?_
              show ∃ s', _ ∧ _ ∧ _ ∧ _
              first | exact ⟨(k + 1, true), ⟨by dsimp only; omega, (by dsimp only; rw [smallB_s hx, ← hb, decide_eq_true (by omega), decide_eq_true (by omega)]; rfl), rng_s hr hx (by omega) (by omega)⟩, by dsimp only; omega, KeepF.auto, Sub.autoD⟩ | exact ⟨(k + 1, false), ⟨by dsimp only; omega, (by dsimp only; rw [smallB_s hx, ← hb]; first | rfl | (rw [decide_eq_false (p := 0 ≤ x) (by omega)]; rfl) | (rw [decide_eq_false (p := x ≤ 9999) (by omega)]; simp)), rng_s hr hx (by omega) (by omega)⟩, by dsimp only; omega, KeepF.auto, Sub.autoD⟩
    · refine sr_nil ?_
      refine aw_kp [0, 2, 3, 4, 20, 21, 22, 23] ?_
      refine aw_false rfl ?_
      refine aw_exit ?_
      show AW _ _ _ _ _ _ _
      refine aw_seq_region ?_
      obtain rfl : k = xs.length := by omega
      rw [List.take_length] at hr
      refine sr_mv ?_
      refine sr_d rfl (wtd_none rfl) rfl (opS_call rfl rfl rfl rfl cl46 (fold_s sa scap xs _ (hs _) hr (by omega))) ?_
      rintro _ _ ⟨Z, hT, a5, c5, E5, rfl, V5, rfl⟩
      have hV5 := V5.slv' (W0 := W0) (xs := foldP Z) (fun _ => rfl) rfl (Sub.refl _)
      have hle5 := hV5.le
      have hcb5 := hV5.capb
      have hTl := hT.len
      have hfl := fold_len Z.length Z (Nat.le_refl _)
      have hZb : ∀ x ∈ Z, Rng x := fun x hx => hr x ((hT.2 x).1 hx)
      refine sr_as ?_
      refine sr_nil ?_
      refine aw_kp [0, 2, 3, 5] ?_
      refine aw_seq_region ?_
      refine sr_mv ?_
      refine sr_d rfl (wtd_none rfl) rfl (opS_call rfl rfl rfl rfl cl47 (sorted_s sa scap xs Z hT _ (hs _) (by omega))) ?_
      rintro _ _ ⟨a6, c6, E6, rfl, V6, rfl⟩
      have hV6 := V6.slv' (W0 := W0) (xs := Z) (fun _ => rfl) rfl (Sub.refl _)
      have hle6 := hV6.le
      have hcb6 := hV6.capb
      refine sr_as ?_
      refine sr_nil ?_
      refine aw_kp [2, 3, 5, 6] ?_
      refine aw_seq_region ?_
      refine sr_mv ?_
      refine sr_as ?_
      refine sr_nil ?_
      refine aw_kp [2, 3, 5, 6, 7] ?_
      refine aw_seq_region ?_
      refine sr_as ?_
      refine sr_nil ?_
      refine aw_kp [2, 3, 5, 6, 7, 8] ?_
      refine aw_seq ?_
      refine aw_seq_region ?_
      refine sr_as ?_
      refine sr_nil ?_
      refine aw_kp [2, 3, 5, 6, 7, 8, 9] ?_
      refine aw_block ?_
      refine aw_loop (ι := LfG) (fun s => s.k ≤ s.m ∧ s.m ≤ Z.length ∧ s.n ≤ (foldP Z).length ∧ SlV W0 E6 1 intC s.a s.cap (Z.drop s.m) ∧ (foldP Z).drop s.n = foldP (Z.drop s.m)) (fun s => [(2, .bool false), (3, .bool b), (5, .slice a5 (foldP Z).length c5), (6, .slice a6 Z.length c6), (7, .slice s.a (Z.drop s.m).length s.cap), (8, .int .i64 (s.n : Nat)), (9, .int .i64 (s.k : Nat))]) (fun _ => E6 ++ (E5 ++ [])) (fun s => Z.length - s.m) ⟨0, 0, 0, a6, c6⟩ (⟨Nat.le_refl _, Nat.zero_le _, Nat.zero_le _, hV6, rfl⟩) KeepF.auto Sub.autoP ?_
      intro s hs9
      obtain ⟨k, m, n, a, cap⟩ := s
      dsimp only at hs9 ⊢
      obtain ⟨hkm, hm, hn, hR, hdr⟩ := hs9
      refine aw_seq ?_
      refine aw_seq_region ?_
      refine sr_mv ?_
      refine sr_c (x_lt rfl rfl) (fun h7 => ?_) (fun h7 => absurd (by first | omega | decide) h7)
      refine sr_mv ?_
      refine sr_ry (x_move rfl) ?_
      refine sr_ry (x_lenSlice Tryd.underlying69 rfl) ?_
      refine sr_cy (x_gt rfl rfl) (fun h8 => ?_) (fun h8 => ?_)
      · refine sr_rd (x_pick_t rfl rfl rfl) ?_
        refine sr_nil ?_
        refine aw_kp [2, 3, 5, 6, 7, 8, 9, 59, 60, 61, 62, 63, 64, 65] ?_
        refine aw_true rfl ?_
        refine aw_skip ?_
        show AW _ _ _ _ _ _ _
        refine aw_seq ?_
        refine aw_block ?_
        refine aw_seq_region ?_
        obtain ⟨Y, hY⟩ : ∃ Y, Y = Z.drop m := ⟨_, rfl⟩
        have hYl : Y.length = Z.length - m := by rw [hY, List.length_drop]
        rw [← hY] at hR hdr ⊢
        have hne : Y ≠ [] := fun q => by have := congrArg List.length (hY.symm.trans q); rw [List.length_nil] at this; omega
        have hYb : ∀ x ∈ Y, Rng x := fun x hx => hZb x (List.mem_of_mem_drop (hY ▸ hx))
        obtain ⟨hk1, hk2⟩ := rowK_bd hne
        have hYd : Z.drop (m + rowK Y) = Y.drop (rowK Y) := by rw [hY, List.drop_drop]
        have hYdl : (Z.drop (m + rowK Y)).length = Y.length - rowK Y := by rw [hYd, List.length_drop]
        have hy0 := getD_get (l := Y) (show 0 < Y.length by omega)
        have hyz := getD_get (l := Y) (show rowK Y - 1 < Y.length by omega)
        have g0 := hYb _ (List.mem_of_getElem? hy0)
        unfold Rng at g0
        obtain ⟨b0, o0, rfl, hc0⟩ := hR.at_ 0 _ hy0
        obtain ⟨bz, oz, haz, hcz⟩ := hR.at_ _ _ hyz
        have hRle := hR.le
        have hRcb := hR.capb
        obtain ⟨hpn, hdn⟩ := drop_uncons (hdr.trans (foldP_cons hne))
        have hnl := get_lt hpn
        refine sr_mv ?_
        refine sr_d rfl (wtd_none rfl) rfl (opS_call rfl rfl rfl rfl cl48 (rowL_s Y (some ⟨b0, o0, none⟩) cap _ (hR.mono Sub.autoE) hne hYb (by omega))) ?_
        rintro _ _ ⟨rfl, rfl⟩
        refine sr_as ?_
        refine sr_nil ?_
        refine aw_kp [2, 3, 5, 6, 7, 8, 9, 10, 59, 60, 61, 62, 63, 64, 65, 68, 69] ?_
        refine aw_seq_dr ⟨_, 11, 143, [[], [0], [0, 1], [], [], [4], [3, 4, 5], [3, 4, 5, 6], [0, 1, 2, 3, 4, 5, 6, 7], [], [0, 1, 2, 3, 4, 5, 6, 7, 8, 9]], [.light, .light, .mem, .light, .light, .light, .light, .mem, .light, .alloc, .eff]⟩ (by kernel_rfl) rfl rfl mix ?_
        refine dr_l (x_move rfl) ?_
        refine dr_l (x_indexAddrN (0) Tryd.underlying69 sz3 rfl rfl rfl (by omega) (by omega)) ?_
        refine dr_mem0 rfl rfl (wtd_none rfl) (x_load ag3 rfl (Cells.mono hc0 Sub.autoE)) ?_
        refine dr_l (x_move rfl) ?_
        refine dr_l (x_move rfl) ?_
        refine dr_l (x_sub' rfl rfl (i64w (by omega) (by omega))) ?_
        refine dr_l (x_indexAddrN (rowK Y - 1) Tryd.underlying69 sz3 rfl haz rfl (by omega) (by omega)) ?_
        refine dr_mem0 rfl rfl (wtd_none rfl) (x_load ag3 rfl (Cells.mono hcz Sub.autoE)) ?_
        refine dr_l (x_build zr67 rfl fl67 Parts.auto Fill.auto) ?_
        refine dr_alloc rfl rfl (wtd_none rfl) (x_alloc zr67 rfl) ?_
        intro r18_9 hr18_9 gr18_9
        refine dr_store rfl (V := [(r18_9, _)]) rfl (clear_all rfl) rfl (wtd_none rfl) (x_store sz67 rfl rfl rfl rfl rfl Repl.auto Spl.auto) (by first | rfl | simp [keys_append, keys_cons]) ?_
        refine dr_nil0 ?_
        refine aw_kp [2, 3, 5, 6, 7, 8, 9, 10, 11, 59, 60, 61, 62, 63, 64, 65, 68, 69, 70, 71, 72, 73, 74, 75, 76, 77, 78] ?_
        refine aw_seq ?_
        refine aw_seq_region ?_
        refine sr_mv ?_
        refine sr_c (x_gt rfl rfl) (fun h9 => ?_) (fun h9 => ?_)
        · refine sr_nil ?_
          refine aw_kp [2, 3, 5, 6, 7, 8, 9, 10, 11, 59, 60, 61, 62, 63, 64, 65, 68, 69, 70, 71, 72, 73, 74, 75, 76, 77, 78, 79, 80] ?_
          refine aw_true rfl ?_
          refine aw_dr ⟨_, 9, 143, [[], [0], [0, 1], [], [3], [3, 4], [0, 1, 2, 3, 4, 5], [0, 1, 2, 3, 4, 5, 6], [0, 1, 2, 3, 4, 5, 6, 7]], [.light, .light, .mem, .light, .light, .mem, .light, .light, .eff]⟩ (by kernel_rfl) rfl rfl mix ?_
          have hy1 := getD_get (l := Y) (show 1 < Y.length by omega)
          have g1 := hYb _ (List.mem_of_getElem? hy1)
          unfold Rng at g1
          obtain ⟨b1, o1, ha1, hc1⟩ := hR.at_ 1 _ hy1
          refine dr_l (x_move rfl) ?_
          refine dr_l (x_indexAddrN (1) Tryd.underlying69 sz3 rfl ha1 rfl (by omega) (by omega)) ?_
          refine dr_mem0 rfl rfl (wtd_none rfl) (x_load ag3 rfl (Cells.mono hc1 Sub.autoE)) ?_
          refine dr_l (x_move rfl) ?_
          refine dr_l (x_indexAddrN (0) Tryd.underlying69 sz3 rfl rfl rfl (by omega) (by omega)) ?_
          refine dr_mem0 rfl rfl (wtd_none rfl) (x_load ag3 rfl (Cells.mono hc0 Sub.autoE)) ?_
          refine dr_l (x_sub' rfl rfl (i64w (by omega) (by omega))) ?_
          refine dr_l (x_fieldAddr fd67_2 rfl) ?_
          refine dr_store0 rfl rfl (wtd_none rfl) (x_store sz3 rfl rfl rfl rfl rfl Repl.auto Spl.auto) (by first | rfl | simp [keys_append, keys_cons]) ?_
          refine dr_nil0 ?_
          show AW _ _ _ _ _ _ _
          refine aw_seq ?_
          refine aw_seq_dr ⟨_, 12, 143, [[], [], [1], [0, 1, 2], [0, 1, 2, 3], [0, 1, 2, 3, 4], [0, 1, 2, 3, 4], [0, 1, 2, 3, 4, 5, 6], [0, 1, 2, 3, 4, 5, 6, 7], [0, 1, 2, 3, 4], [0, 1, 2, 3, 4, 5, 6, 7, 8, 9], [0, 1, 2, 3, 4, 5, 6, 7, 8, 9, 10]], [.light, .light, .light, .light, .light, .light, .light, .light, .mem, .mem, .light, .light]⟩ (by kernel_rfl) rfl rfl mix ?_
          have hpe : fpart Y = ⟨Y.getD 0 0, Y.getD (rowK Y - 1) 0, if 1 < rowK Y then Y.getD 1 0 - Y.getD 0 0 else 1⟩ := rfl
          first | rw [if_pos (by omega)] at hpe | rw [if_neg (by omega)] at hpe
          rw [hpe] at hpn
          obtain ⟨b5, o5, ha5, hc5⟩ := hV5.at_ n _ hpn
          refine dr_l (x_move rfl) ?_
          refine dr_l (x_move rfl) ?_
          refine dr_l (x_lenSlice Tryd.underlying62 rfl) ?_
          refine dr_cmp rfl rfl (wtd_none rfl) (x_ge rfl rfl) (fun h10 => absurd h10 (by first | omega | decide)) (fun h10 => ?_)
          refine dr_l (x_move rfl) ?_
          refine dr_y (x_move rfl) ?_
          refine dr_y (x_move rfl) ?_
          refine dr_y (x_indexAddrN n Tryd.underlying62 sz67 rfl ha5 rfl (by omega) (by omega)) ?_
          refine dr_mem0 rfl rfl (wtd_yes rfl rfl rfl) (x_loadN ag67 sz67 rfl (Cells.mono hc5 Sub.autoE) rfl) ?_
          refine dr_mem0 rfl rfl (wtd_yes rfl rfl rfl) (x_loadN ag67 sz67 rfl (cells_ext mauto Ext.auto) rfl) ?_
          refine dr_cmp rfl rfl (wtd_yes rfl rfl rfl) (x_neStruct Tryd.underlying67 ks67 rfl rfl rfl rfl rfl) (fun h11 => absurd h11 (by exact fun h => Bool.noConfusion (((eqC_part (a := ⟨Y.getD 0 0, Y.getD (rowK Y - 1) 0, _⟩) (b := ⟨Y.getD 0 0, Y.getD (rowK Y - 1) 0, _⟩)).2 rfl).symm.trans h))) (fun h11 => ?_)
          refine dr_l (x_pick_f rfl rfl rfl) ?_
          refine dr_nil0 ?_
          refine aw_kp [2, 3, 5, 6, 7, 8, 9, 10, 11, 59, 60, 61, 62, 63, 64, 65, 68, 69, 70, 71, 72, 73, 74, 75, 76, 77, 78, 79, 80, 81, 82, 83, 84, 85, 86, 87, 88, 89, 90, 91, 92, 93, 94, 95, 96, 97, 98, 99, 100] ?_
          refine aw_false rfl ?_
          refine aw_skip ?_
          show AW _ _ _ _ _ _ _
          refine aw_seq_region ?_
          refine sr_mv ?_
          refine sr_rd (x_add' rfl rfl (i64w (by omega) (by omega))) ?_
          refine sr_as ?_
          refine sr_nil ?_
          refine aw_kp [2, 3, 5, 6, 7, 8, 9, 10, 11, 59, 60, 61, 62, 63, 64, 65, 68, 69, 70, 71, 72, 73, 74, 75, 76, 77, 78, 79, 80, 81, 82, 83, 84, 85, 86, 87, 88, 89, 90, 91, 92, 93, 94, 95, 96, 97, 98, 99, 100, 101, 102] ?_
          refine aw_region ?_
          refine sr_mv ?_
          refine sr_mv ?_
          refine sr_rd (x_sliceLoD Tryd.underlying69 sz3 rfl rfl hk2 hRle hYdl) ?_
          refine sr_as ?_
          refine sr_nil ?_
          show AW _ _ _ _ _ _ _
          refine aw_region ?_
          refine sr_mv ?_
          refine sr_rd (x_add' rfl rfl (i64w (by omega) (by omega))) ?_
          refine sr_as ?_
          refine sr_nil ?_
          show ∃ s', _ ∧ _ ∧ _ ∧ _
          exact ⟨⟨k + 1, m + rowK Y, n + 1, some ⟨b0, if cap = rowK Y then o0 else o0 + rowK Y * 1, none⟩, cap - rowK Y⟩, ⟨by dsimp only; omega, by dsimp only; omega, by dsimp only; omega, (by dsimp only; rw [hYd]; exact slv_cutk hR (by omega) (by omega) (fun h => if_neg (by omega))), (by dsimp only; rw [hYd]; exact hdn)⟩, by dsimp only; omega, KeepF.auto, Sub.autoP⟩
        · refine sr_nil ?_
          refine aw_kp [2, 3, 5, 6, 7, 8, 9, 10, 11, 59, 60, 61, 62, 63, 64, 65, 68, 69, 70, 71, 72, 73, 74, 75, 76, 77, 78, 79, 80] ?_
          refine aw_false rfl ?_
          refine aw_skip ?_
          show AW _ _ _ _ _ _ _
          refine aw_seq ?_
          refine aw_seq_dr ⟨_, 12, 143, [[], [], [1], [0, 1, 2], [0, 1, 2, 3], [0, 1, 2, 3, 4], [0, 1, 2, 3, 4], [0, 1, 2, 3, 4, 5, 6], [0, 1, 2, 3, 4, 5, 6, 7], [0, 1, 2, 3, 4], [0, 1, 2, 3, 4, 5, 6, 7, 8, 9], [0, 1, 2, 3, 4, 5, 6, 7, 8, 9, 10]], [.light, .light, .light, .light, .light, .light, .light, .light, .mem, .mem, .light, .light]⟩ (by kernel_rfl) rfl rfl mix ?_
          have hpe : fpart Y = ⟨Y.getD 0 0, Y.getD (rowK Y - 1) 0, if 1 < rowK Y then Y.getD 1 0 - Y.getD 0 0 else 1⟩ := rfl
          first | rw [if_pos (by omega)] at hpe | rw [if_neg (by omega)] at hpe
          rw [hpe] at hpn
          obtain ⟨b5, o5, ha5, hc5⟩ := hV5.at_ n _ hpn
          refine dr_l (x_move rfl) ?_
          refine dr_l (x_move rfl) ?_
          refine dr_l (x_lenSlice Tryd.underlying62 rfl) ?_
          refine dr_cmp rfl rfl (wtd_none rfl) (x_ge rfl rfl) (fun h12 => absurd h12 (by first | omega | decide)) (fun h12 => ?_)
          refine dr_l (x_move rfl) ?_
          refine dr_y (x_move rfl) ?_
          refine dr_y (x_move rfl) ?_
          refine dr_y (x_indexAddrN n Tryd.underlying62 sz67 rfl ha5 rfl (by omega) (by omega)) ?_
          refine dr_mem0 rfl rfl (wtd_yes rfl rfl rfl) (x_loadN ag67 sz67 rfl (Cells.mono hc5 Sub.autoE) rfl) ?_
          refine dr_mem0 rfl rfl (wtd_yes rfl rfl rfl) (x_loadN ag67 sz67 rfl (cells_ext mauto Ext.auto) rfl) ?_
          refine dr_cmp rfl rfl (wtd_yes rfl rfl rfl) (x_neStruct Tryd.underlying67 ks67 rfl rfl rfl rfl rfl) (fun h13 => absurd h13 (by exact fun h => Bool.noConfusion (((eqC_part (a := ⟨Y.getD 0 0, Y.getD (rowK Y - 1) 0, _⟩) (b := ⟨Y.getD 0 0, Y.getD (rowK Y - 1) 0, _⟩)).2 rfl).symm.trans h))) (fun h13 => ?_)
          refine dr_l (x_pick_f rfl rfl rfl) ?_
          refine dr_nil0 ?_
          refine aw_kp [2, 3, 5, 6, 7, 8, 9, 10, 11, 59, 60, 61, 62, 63, 64, 65, 68, 69, 70, 71, 72, 73, 74, 75, 76, 77, 78, 79, 80, 89, 90, 91, 92, 93, 94, 95, 96, 97, 98, 99, 100] ?_
          refine aw_false rfl ?_
          refine aw_skip ?_
          show AW _ _ _ _ _ _ _
          refine aw_seq_region ?_
          refine sr_mv ?_
          refine sr_rd (x_add' rfl rfl (i64w (by omega) (by omega))) ?_
          refine sr_as ?_
          refine sr_nil ?_
          refine aw_kp [2, 3, 5, 6, 7, 8, 9, 10, 11, 59, 60, 61, 62, 63, 64, 65, 68, 69, 70, 71, 72, 73, 74, 75, 76, 77, 78, 79, 80, 89, 90, 91, 92, 93, 94, 95, 96, 97, 98, 99, 100, 101, 102] ?_
          refine aw_region ?_
          refine sr_mv ?_
          refine sr_mv ?_
          refine sr_rd (x_sliceLoD Tryd.underlying69 sz3 rfl rfl hk2 hRle hYdl) ?_
          refine sr_as ?_
          refine sr_nil ?_
          show AW _ _ _ _ _ _ _
          refine aw_region ?_
          refine sr_mv ?_
          refine sr_rd (x_add' rfl rfl (i64w (by omega) (by omega))) ?_
          refine sr_as ?_
          refine sr_nil ?_
          show ∃ s', _ ∧ _ ∧ _ ∧ _
          exact ⟨⟨k + 1, m + rowK Y, n + 1, some ⟨b0, if cap = rowK Y then o0 else o0 + rowK Y * 1, none⟩, cap - rowK Y⟩, ⟨by dsimp only; omega, by dsimp only; omega, by dsimp only; omega, (by dsimp only; rw [hYd]; exact slv_cutk hR (by omega) (by omega) (fun h => if_neg (by omega))), (by dsimp only; rw [hYd]; exact hdn)⟩, by dsimp only; omega, KeepF.auto, Sub.autoP⟩
      · refine sr_rd (x_pick_t rfl rfl rfl) ?_
        refine sr_nil ?_
        refine aw_kp [2, 3, 5, 6, 7, 8, 9, 59, 60, 61, 62, 63, 64, 65] ?_
        refine aw_false rfl ?_
        refine aw_exit ?_
        show AW _ _ _ _ _ _ _
        refine aw_seq ?_
        refine aw_seq_region ?_
        have hz : Z.drop m = [] := List.length_eq_zero_iff.1 (by omega)
        rw [hz, foldP_nil] at hdr
        have hn3 := List.drop_eq_nil_iff.1 hdr
        refine sr_mv ?_
        refine sr_mv ?_
        refine sr_rd (x_lenSlice Tryd.underlying62 rfl) ?_
        refine sr_c (x_ne rfl rfl) (fun h14 => absurd h14 (by first | omega | decide)) (fun h14 => ?_)
        refine sr_nil ?_
        refine aw_kp [2, 3, 5, 6, 109] ?_
        refine aw_false rfl ?_
        refine aw_skip ?_
        show AW _ _ _ _ _ _ _
        refine aw_seq_region ?_
        refine sr_mv ?_
        refine sr_d rfl (wtd_none rfl) rfl (opS_call rfl rfl rfl rfl cl42 (numbers_s a5 c5 (foldP Z) _ (V5.slv' (fun _ => rfl) rfl Sub.autoE))) ?_
        rintro _ _ ⟨ys, e, a9, c9, E9, rfl, hN, V9, rfl⟩
        refine sr_mv ?_
        refine sr_rd (x_extract rfl rfl) ?_
        refine sr_rd (x_extract rfl rfl) ?_
        refine sr_as ?_
        refine sr_as ?_
        refine sr_nil ?_
        refine aw_kp [2, 3, 6, 12, 13] ?_
        refine aw_seq ?_
        refine aw_seq_region ?_
        cases b
        · refine sr_mv ?_
          refine sr_rd (x_not rfl) ?_
          refine sr_nil ?_
          refine aw_kp [2, 6, 12, 13, 116] ?_
          refine aw_true rfl ?_
          refine aw_seq_region ?_
          refine sr_d rfl (wtd_none rfl) rfl (opS_call rfl rfl rfl rfl cl43 (awake35_s _)) ?_
          rintro _ H9 ⟨rfl, rfl⟩
          refine sr_as ?_
          refine sr_nil ?_
          refine aw_kp [2, 6, 12, 13] ?_
          refine aw_ret ?_
          show ∃ v H2, ResV _ _ _ _ _ _ v ∧ Sub H2 _ ∧ _
          exact ⟨_, [], resV rfl (.cons rfl .nil), (Sub.nil _), rfl⟩
        · refine sr_mv ?_
          refine sr_rd (x_not rfl) ?_
          refine sr_nil ?_
          refine aw_kp [2, 6, 12, 13, 116] ?_
          refine aw_false rfl ?_
          refine aw_skip ?_
          show AW _ _ _ _ _ _ _
          refine aw_seq ?_
          refine aw_seq_region ?_
          have hsm := smallB_t hb
          obtain ⟨rfl, rfl⟩ := num_fold hN hT.1 (fun x hx => hsm x ((hT.2 x).1 hx)) (by omega)
          have hV9 := V9.slv' (W0 := W0) (xs := ys) (fun _ => rfl) rfl (Sub.refl _)
          have hle9 := hV9.le
          have hcb9 := hV9.capb
          refine sr_mv ?_
          refine sr_c (x_ne rfl rfl) (fun h15 => absurd h15 (by exact fun h => h rfl)) (fun h15 => ?_)
          refine sr_mv ?_
          refine sr_ry (x_move rfl) ?_
          refine sr_ry (x_lenSlice Tryd.underlying69 rfl) ?_
          refine sr_ry (x_move rfl) ?_
          refine sr_ry (x_lenSlice Tryd.underlying69 rfl) ?_
          refine sr_cy (x_ne rfl rfl) (fun h16 => absurd h16 (by exact fun h => h rfl)) (fun h16 => ?_)
          refine sr_rd (x_pick_f rfl rfl rfl) ?_
          refine sr_nil ?_
          refine aw_kp [2, 6, 12, 126] ?_
          refine aw_false rfl ?_
          refine aw_skip ?_
          show AW _ _ _ _ _ _ _
          refine aw_seq ?_
          refine aw_seq_region ?_
          refine sr_as ?_
          refine sr_nil ?_
          refine aw_kp [2, 6, 12, 14] ?_
          refine aw_block ?_
          refine aw_loop (ι := Nat) (fun i => i ≤ ys.length) (fun i => [(2, .bool false), (6, .slice a6 ys.length c6), (12, .slice a9 ys.length c9), (14, .int .i64 (i : Nat))]) (fun _ => E9 ++ (E6 ++ (E5 ++ []))) (fun i => ys.length - i) 0 (Nat.zero_le _) KeepF.auto Sub.autoP ?_
          intro i hi
          refine aw_seq ?_
          refine aw_seq_region ?_
          refine sr_mv ?_
          refine sr_mv ?_
          refine sr_rd (x_lenSlice Tryd.underlying69 rfl) ?_
          refine sr_c (x_lt rfl rfl) (fun h17 => ?_) (fun h17 => ?_)
          · refine sr_nil ?_
            refine aw_kp [2, 6, 12, 14, 127, 128, 129, 130] ?_
            refine aw_true rfl ?_
            refine aw_skip ?_
            show AW _ _ _ _ _ _ _
            refine aw_seq ?_
            refine aw_block ?_
            refine aw_seq_dr ⟨_, 9, 143, [[], [], [0, 1], [0, 1, 2], [], [], [4, 5], [4, 5, 6], [0, 1, 2, 3, 4, 5, 6, 7]], [.light, .light, .light, .mem, .light, .light, .light, .mem, .light]⟩ (by kernel_rfl) rfl rfl mix ?_
            obtain ⟨z, hz⟩ := get_ex (show i < ys.length by omega)
            obtain ⟨bz, oz, haz, hcz⟩ := hV6.at_ i _ hz
            obtain ⟨by9, oy, hay, hcy⟩ := hV9.at_ i _ hz
            refine dr_l (x_move rfl) ?_
            refine dr_l (x_move rfl) ?_
            refine dr_l (x_indexAddrN (i) Tryd.underlying69 sz3 rfl hay rfl (by omega) (by omega)) ?_
            refine dr_mem0 rfl rfl (wtd_none rfl) (x_load ag3 rfl (Cells.mono hcy Sub.autoE)) ?_
            refine dr_l (x_move rfl) ?_
            refine dr_l (x_move rfl) ?_
            refine dr_l (x_indexAddrN (i) Tryd.underlying69 sz3 rfl haz rfl (by omega) (by omega)) ?_
            refine dr_mem0 rfl rfl (wtd_none rfl) (x_load ag3 rfl (Cells.mono hcz Sub.autoE)) ?_
            refine dr_cmp rfl rfl (wtd_none rfl) (x_ne rfl rfl) (fun h18 => absurd h18 (by exact fun h => h rfl)) (fun h18 => ?_)
            refine dr_nil0 ?_
            refine aw_kp [2, 6, 12, 14, 127, 128, 129, 130, 133, 134, 135, 136, 137, 138, 139, 140, 141] ?_
            refine aw_false rfl ?_
            refine aw_skip ?_
            show AW _ _ _ _ _ _ _
            refine aw_region ?_
            refine sr_mv ?_
            refine sr_rd (x_add' rfl rfl (i64w (by omega) (by omega))) ?_
            refine sr_as ?_
            refine sr_nil ?_
            show ∃ s', _ ∧ _ ∧ _ ∧ _
            exact ⟨i + 1, by omega, by omega, KeepF.auto, Sub.autoP⟩
          · refine sr_nil ?_
            refine aw_kp [2, 6, 12, 14, 127, 128, 129, 130] ?_
            refine aw_false rfl ?_
            refine aw_exit ?_
            show AW _ _ _ _ _ _ _
            refine aw_seq_region ?_
            refine sr_d rfl (wtd_none rfl) rfl (opS_call rfl rfl rfl rfl cl43 (awake35_s _)) ?_
            rintro _ H9 ⟨rfl, rfl⟩
            refine sr_as ?_
            refine sr_nil ?_
            refine aw_kp [2] ?_
            refine aw_ret ?_
            show ∃ v H2, ResV _ _ _ _ _ _ v ∧ Sub H2 _ ∧ _
            exact ⟨_, [], resV rfl (.cons rfl .nil), (Sub.nil _), rfl⟩
end
namespace ArrayFoldsRow
open Go.ChangeShapes Go.WideShapes Go.ChangeAt Go.RowKit
theorem own : ownKnob Tryd.prog.godebug = none := by kernel_rfl
theorem laidOut : laidOutB Tryd.prog = true := by kernel_rfl
def laid : List (String × DataW Unit) := [("unicode/utf8.acceptRanges", Rows.laid_unicode_utf8_acceptRanges), ("unicode/utf8.first", Rows.laid_unicode_utf8_first)]
set_option maxRecDepth 100000 in
theorem lifted (os : Os) (started : os.Started) (H : Type) (enc : TypeId × Value → H) :
    ReturnsInHanded {} Tryd.checked os 15 .any (fun w args => (Rows.arrayFoldsSpec.pre enc Tryd.prog Tryd.f15 [] false w args ∧ laidMetH Tryd.prog laid w) ∧ sizedMet enc Tryd.prog Tryd.f15 (OpenSpec.ofChange Rows.arrayFoldsSpec) false w args)
      (Rows.arrayFoldsSpec.post enc Tryd.prog Tryd.f15 false true false false) := by
  refine law_lifted_laid (C := Tryd.checked) (tb := 4) (laid := laid) own started (by kernel_rfl) Tryd.func15
    (ChangeSpec.witness_shaped (enc := enc) (C := Tryd.checked) (os := os) (X := fun w _ => laidMetH Tryd.prog laid w) false (World.laidAll Tryd.prog os laid) #[.slice none 0 0] 8 (World.laidAll_os _ _ _)
      (World.shaped_of_ZipB (by kernel_rfl) (by kernel_rfl)) (by kernel_rfl) (by kernel_rfl) (by kernel_rfl)
      (by rw [MakeChecks.laidMetH_plain _ _ _ (by kernel_rfl)]; exact laidMet_laidAll _ (by kernel_rfl) (by kernel_rfl)))
    (fun w => MakeChecks.laidMetH_plain _ _ _ (by kernel_rfl)) rfl Tryd.underlying4 rfl laidOut (by kernel_rfl) ?_ ?_
  · intro ds h
    match ds, h with
    | [a0], _ => rfl
  · intro W base args ds ps hval hA hlt hsz
    have hA' : DataW.TrodAll enc Tryd.prog W 0 (fun _ => true) true [69] args ds ps := hA
    clear hA
    obtain ⟨v0, vs0, d0, ds0, p0, q0, rfl, rfl, rfl, h0, r0⟩ := trodAll_cons hA'
    obtain ⟨rfl, rfl, rfl⟩ := trodAll_nil r0
    obtain ⟨a, cap, xs, rfl, hs, hw⟩ := opn_slice (en := intC) (Ok := fun _ => True) Tryd.underlying69 cells3 (by decide) (fun fuel cs x h => read_intC h) (hval 0 69 v0 rfl rfl) h0
    exact arrayFolds_s a cap xs hs
theorem joined : joinedFacts Tryd.prog 15 Tryd.f15 Rows.arrayFoldsSpec Rows.arrayFoldsRow = true := by
  unfold joinedFacts
  rw [cutMay, cutLif, cutMk]
  kernel_rfl
theorem over : Rows.arrayFoldsRow.holds Tryd.pinned (OpenSpec.ofChange Rows.arrayFoldsSpec) :=
  OpenClaim.holds_of_wide 15 Tryd.f15 rfl rfl rfl rfl rfl rfl rfl ⟨rfl, rfl, rfl, rfl, rfl⟩ rfl rfl rfl rfl rfl (by kernel_rfl) Tryd.func15 joined
    (of_decide_eq_true (by kernel_rfl)) (by unfold Func.isWrapper; first | (rw [if_pos (by decide +kernel)]; kernel_rfl) | (rw [if_neg (by decide +kernel)]; exact ⟨rfl, rfl⟩))
    (fun os started H enc _ => lifted os started H enc)
theorem proved : Rows.ArrayFoldsCardSaid :=
  Claim7.holds_tied_plain_at .later [] [.data, .pinned] true (true, "426c9bee184f4b528ab0760080dc1cc7cd819b0490f5c9691bd34e83eb6dee88") false over (fun _ h => by cases h) (by kernel_rfl) (fun _ h => by cases h) arrayFolds_row_tie rfl ⟨rfl, rfl⟩ (by kernel_rfl) rfl
    (fun f fn hf hfn => by
      obtain rfl : f = 15 := Option.some.inj ((show Tryd.prog.funcNamed "berthage/berthagelaw35.ArrayFolds" = some 15 by kernel_rfl).symm.trans hf) |>.symm
      obtain rfl : fn = Tryd.f15 := (Option.some.inj (Tryd.func15.symm.trans hfn)).symm
      exact ⟨by kernel_rfl, fun j t ht => by
        have ht' : (#[69] : Array TypeId)[j]? = some t := ht
        have hm : t ∈ [69] := by simpa using Array.mem_of_getElem? ht'
        have hall : ([69].all fun u => !Tryd.prog.wantsStandIn u) = true := by kernel_rfl
        exact (show Tryd.prog.wantsStandIn t = false by simpa using List.all_eq_true.1 hall t hm)⟩)
    (by kernel_rfl)
#print axioms proved
end ArrayFoldsRow
end Go.Proofs.YtbcajgkaepihfaaDoor
