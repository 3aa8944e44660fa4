/- Any text is read as parts whose text it is, or as none; no condition but that the listed variables lie as the program's text lays them. -/
import Derived.Test.YtbcajgkaepihfaaDoorSgc
import Derived.Test.YtbcajgkaepihfaaDoorSymLaid
import Derived.Test.YtbcajgkaepihfaaDoorRows
import Derived.Test.YtbcajgkaepihfaaDoorCards
import Derived.Test.YtbcajgkaepihfaaDoorTie
import Derived.Test.YtbcajgkaepihfaaDoorCut
import Derived.SevenTiedAt
namespace Go.Proofs.YtbcajgkaepihfaaDoor
open Go.Proofs.YtbcajgkaepihfaaDoor.Sym
open Go.RowKit (Below)
set_option linter.unusedVariables false
set_option linter.unusedSimpArgs false
def okB (xs : List Part) (k : Nat) : Bool := decide (0 < xs.length) && (xs.take k).all fun p => decide (PRight p)
theorem okB_0 {xs : List Part} : decide ((xs.length : Int) > 0) = okB xs 0 := by unfold okB; simp
theorem okB_s {xs : List Part} {k : Nat} {x : Part} (h : xs[k]? = some x) : okB xs (k + 1) = (okB xs k && decide (PRight x)) := by
  unfold okB; rw [takeS h, List.all_append, Bool.and_assoc]; simp
theorem okB_t {xs : List Part} (h : true = okB xs xs.length) : xs ≠ [] ∧ ∀ p ∈ xs, PRight p := by
  unfold okB at h
  rw [List.take_length] at h
  have h := h.symm
  rw [Bool.and_eq_true, decide_eq_true_iff, List.all_eq_true] at h
  exact ⟨List.length_pos_iff.1 h.1, fun p hp => of_decide_eq_true (h.2 p hp)⟩
theorem txtP_ge : ∀ {l : List Part}, l.length ≤ (txtP l).length + 1
  | [] => by simp
  | [v] => by simp
  | v :: u :: l => by
    have h2 := txtP_ge (l := u :: l)
    unfold txtP at h2 ⊢
    rw [List.map_cons, joinW_cons (by simp), List.length_append, List.length_cons, List.length_cons]
    rw [List.length_cons] at h2 ⊢
    omega
theorem cells3 : Tryd.prog.cellsOf 3 = 1 := by kernel_rfl
theorem cells67 : Tryd.prog.cellsOf 67 = 3 := by kernel_rfl
theorem cl38 : Callable Tryd.prog 38 := ⟨Tryd.f38, Tryd.func38, by kernel_rfl, by kernel_rfl⟩
theorem cl39 : Callable Tryd.prog 39 := ⟨Tryd.f39, Tryd.func39, by kernel_rfl, by kernel_rfl⟩
theorem cl43 : Callable Tryd.prog 43 := ⟨Tryd.f43, Tryd.func43, by kernel_rfl, by kernel_rfl⟩
theorem cl45 : Callable Tryd.prog 45 := ⟨Tryd.f45, Tryd.func45, by kernel_rfl, by kernel_rfl⟩
section
variable {W0 : World}
set_option maxRecDepth 100000 in
theorem read_Part {H : Type} {enc : TypeId × Value → H} {w : World} {base : Nat} {spare : Nat → Bool} {held : Bool} {fuel : Nat} {cs : List Value} {x : DataW H × List MemPlace} (h : DataW.trod enc Tryd.prog w base spare held fuel 67 cs = some x) : ∃ j : Part, cs = j.cells ∧ j.Wf := by
  obtain ⟨hlen, n, hf⟩ := read_struct Tryd.underlying67 h
  rw [cells67] at hlen
  obtain ⟨a0, e0, l0, u0⟩ := read_int Tryd.underlying3 cells3 (hf 0 _ rfl)
  obtain ⟨a1, e1, l1, u1⟩ := read_int Tryd.underlying3 cells3 (hf 1 _ rfl)
  obtain ⟨a2, e2, l2, u2⟩ := read_int Tryd.underlying3 cells3 (hf 2 _ rfl)
  refine ⟨⟨a0, a1, a2⟩, ?_, ⟨l0, u0, l1, u1, l2, u2⟩⟩
  apply List.ext_getElem?
  intro i
  match i with
  | 0 => exact e0
  | 1 => exact e1
  | 2 => exact e2
  | i + 3 => rw [List.getElem?_eq_none (by omega), List.getElem?_eq_none (by simp)]
set_option maxRecDepth 100000 in
theorem open_Part {H : Type} {enc : TypeId × Value → H} {w : World} {base b0 : Nat} {spare : Nat → Bool} {held : Bool} {v : Value} {d : DataW H} {p : List MemPlace} {r : Reach} (hv : Value.okWide Tryd.prog w r b0 67 v) (h : DataW.Trod enc Tryd.prog w base spare held 67 v d p) : ∃ j : Part, v = j.v ∧ j.Wf := by
  obtain ⟨cs, rfl, _⟩ := Go.WideShapes.okWide_struct Tryd.underlying67 hv
  obtain ⟨fuel, hf⟩ := h
  obtain ⟨j, h1, h2⟩ := read_Part hf
  refine ⟨j, ?_, h2⟩
  have : cs = j.cells.toArray := by apply Array.toList_inj.1; exact h1
  rw [this]
end

section
variable {W0 : World}
set_option maxRecDepth 100000 in
set_option maxHeartbeats 4000000 in
theorem arrayParses_s (s0 : List UInt8) (hsl0 : s0.length ≤ 9223372036854775807) (sa : Option Addr) (scap : Nat) (l : List Part) (hs0 : ∀ G, SlV W0 G 3 Part.cells sa scap l) (hwf : ∀ p ∈ l, WfP p) : AC Tryd.prog W0 14 [.string (bs s0), .slice sa l.length scap] [] (fun v _ => v = .bool true) := by
  have hle0 := (hs0 []).le
  have hcb0 := (hs0 []).capb
  refine ac_of Tryd.func14 rfl rfl rfl ?_
  refine aw_seq_region ?_
  refine sr_as ?_
  refine sr_nil ?_
  refine aw_kp [0, 1, 4] ?_
  refine aw_seq ?_
  refine aw_seq_region ?_
  refine sr_mv ?_
  refine sr_rd (x_lenB Tryd.underlying9 rfl) ?_
  refine sr_c (x_gt rfl rfl) (fun h1 => ?_) (fun h1 => ?_)
  · refine sr_nil ?_
    refine aw_kp [0, 1, 4, 14] ?_
    refine aw_true rfl ?_
    refine aw_seq_region ?_
    refine sr_mv ?_
    refine sr_d rfl (wtd_none rfl) rfl (opS_call rfl rfl rfl rfl cl44 (parsep_s s0 hsl0 _)) ?_
    rintro _ _ ⟨a9, c9, E9, rfl, V9, rfl⟩
    rw [parseP_long (by omega)] at V9 ⊢
    refine sr_mv ?_
    refine sr_rd (x_extract rfl rfl) ?_
    refine sr_rd (x_extract rfl rfl) ?_
    refine sr_as ?_
    refine sr_as ?_
    refine sr_nil ?_
    refine aw_kp [0, 1, 4, 5, 6] ?_
    refine aw_seq_region ?_
    refine sr_mv ?_
    refine sr_rd (x_lenSlice Tryd.underlying62 rfl) ?_
    refine sr_c (x_eq rfl rfl) (fun h2 => ?_) (fun h2 => absurd (by rfl) h2)
    refine sr_mv ?_
    refine sr_ry (x_move rfl) ?_
    refine sr_cy (x_eq rfl rfl) (fun h3 => ?_) (fun h3 => absurd (by rfl) h3)
    refine sr_rd (x_pick_t rfl rfl rfl) ?_
    refine sr_mv ?_
    refine sr_d rfl (wtd_yes rfl rfl rfl) rfl (opS_call rfl rfl rfl rfl cl43 (awake35_s _)) ?_
    rintro _ H9 ⟨rfl, rfl⟩
    refine sr_rd (x_pick_t rfl rfl rfl) ?_
    refine sr_as ?_
    refine sr_nil ?_
    refine aw_kp [0, 1, 4] ?_
    refine aw_ret ?_
    show ∃ v H2, ResV _ _ _ _ _ _ v ∧ Sub H2 _ ∧ _
    exact ⟨_, [], resV rfl (.cons rfl .nil), (Sub.nil _), rfl⟩
  · refine sr_nil ?_
    refine aw_kp [0, 1, 4, 14] ?_
    refine aw_false rfl ?_
    refine aw_skip ?_
    show AW _ _ _ _ _ _ _
    refine aw_join (ι := Unit) (fun _ => True) (fun _ => [(0, .string (bs (s0.take 100))), (1, .slice sa l.length scap), (4, .bool false)]) (fun _ => []) ?_ ?_
    · refine aw_seq_region ?_
      refine sr_mv ?_
      refine sr_rd (x_lenB Tryd.underlying9 rfl) ?_
      refine sr_c (x_gt rfl rfl) (fun h4 => ?_) (fun h4 => ?_)
      · refine sr_nil ?_
        refine aw_kp [0, 1, 4, 32] ?_
        refine aw_true rfl ?_
        refine aw_region ?_
        refine sr_mv ?_
        refine sr_rd (x_sliceHiB (100) Tryd.underlying9 rfl rfl (by first | rfl | omega) (by omega)) ?_
        refine sr_as ?_
        refine sr_nil ?_
        show ∃ s', _ ∧ _ ∧ _
        exact ⟨(), trivial, (by first | exact KeepF.auto | (rw [List.take_of_length_le (by omega)]; exact KeepF.auto)), Sub.autoP⟩
      · refine sr_nil ?_
        refine aw_kp [0, 1, 4, 32] ?_
        refine aw_false rfl ?_
        refine aw_skip ?_
        show ∃ s', _ ∧ _ ∧ _
        exact ⟨(), trivial, (by first | exact KeepF.auto | (rw [List.take_of_length_le (by omega)]; exact KeepF.auto)), Sub.autoP⟩
    · intro _ _
      obtain ⟨s, hse⟩ : ∃ s, s = s0.take 100 := ⟨_, rfl⟩
      have hsl : s.length ≤ 100 := by rw [hse, List.length_take]; omega
      rw [← hse]
      refine aw_seq_region ?_
      refine sr_mv ?_
      refine sr_d rfl (wtd_none rfl) rfl (opS_call rfl rfl rfl rfl cl38 (fewp_s sa scap l _ (by omega) (by omega))) ?_
      rintro _ _ ⟨rfl, rfl⟩
      obtain ⟨xs, hxs⟩ : ∃ xs, xs = l.take 20 := ⟨_, rfl⟩
      have hs : ∀ G, SlV W0 G 3 Part.cells sa scap xs := fun G => hxs ▸ (hs0 G).take 20
      have hx20 : xs.length ≤ 20 := by rw [hxs, List.length_take]; omega
      have hw : ∀ p ∈ xs, WfP p := fun p hp => hwf p (List.mem_of_mem_take (hxs ▸ hp))
      rw [← hxs]
      have hle := (hs []).le
      have hcb := (hs []).capb
      refine sr_as ?_
      refine sr_nil ?_
      refine aw_kp [0, 1, 4] ?_
      refine aw_seq_region ?_
      refine sr_mv ?_
      refine sr_rd (x_lenSlice Tryd.underlying62 rfl) ?_
      refine sr_rd (x_cast (u := .bool (okB xs 0)) (x_gt rfl rfl) (congrArg Value.bool okB_0)) ?_
      refine sr_as ?_
      refine sr_nil ?_
      refine aw_kp [0, 1, 4, 7] ?_
      refine aw_seq ?_
      refine aw_seq_region ?_
      refine sr_as ?_
      refine sr_nil ?_
      refine aw_kp [0, 1, 4, 7, 8] ?_
      refine aw_block ?_
      refine aw_loop (ι := Nat × Bool) (fun s => s.1 ≤ xs.length ∧ s.2 = okB xs s.1) (fun t => [(0, .string (bs s)), (1, .slice sa xs.length scap), (4, .bool false), (7, .bool t.2), (8, .int .i64 t.1)]) (fun _ => []) (fun t => xs.length - t.1) (0, okB xs 0) (⟨Nat.zero_le _, rfl⟩) KeepF.auto Sub.autoP ?_
      intro t ht
      obtain ⟨k, b⟩ := t
      dsimp only at ht ⊢
      obtain ⟨hk, hb⟩ := ht
      refine aw_seq ?_
      refine aw_seq_region ?_
      refine sr_mv ?_
      refine sr_mv ?_
      refine sr_rd (x_lenSlice Tryd.underlying62 rfl) ?_
      refine sr_c (x_lt rfl rfl) (fun h5 => ?_) (fun h5 => ?_)
      · refine sr_nil ?_
        refine aw_kp [0, 1, 4, 7, 8, 40, 41, 42, 43] ?_
        refine aw_true rfl ?_
        refine aw_skip ?_
        show AW _ _ _ _ _ _ _
        refine aw_seq ?_
        refine aw_block ?_
        refine aw_region ?_
        cases b
        · refine sr_mv ?_
          refine sr_mv ?_
          obtain ⟨x, hx⟩ := get_ex (show k < xs.length by omega)
          obtain ⟨bx, ox, hax, hcx⟩ := (hs []).at_ k _ hx
          refine sr_sk ?_
          refine sr_sk ?_
          refine sr_sk ?_
          refine sr_sk ?_
          refine sr_sk ?_
          refine sr_rd (x_pick_f rfl rfl rfl) ?_
          refine sr_as ?_
          refine sr_nil ?_
          show AW _ _ _ _ _ _ _
          refine aw_region ?_
          refine sr_mv ?_
          refine sr_rd (x_add' rfl rfl (i64w (by omega) (by omega))) ?_
          refine sr_as ?_
          refine sr_nil ?_
          show ∃ s', _ ∧ _ ∧ _ ∧ _
          first | exact ⟨(k + 1, decide (PRight x)), ⟨by dsimp only; omega, (by dsimp only; rw [okB_s hx, ← hb]; rfl)⟩, by dsimp only; omega, KeepF.auto, Sub.autoD⟩ | exact ⟨(k + 1, false), ⟨by dsimp only; omega, (by dsimp only; rw [okB_s hx, ← hb]; rfl)⟩, by dsimp only; omega, KeepF.auto, Sub.autoD⟩
        · refine sr_mv ?_
          refine sr_mv ?_
          obtain ⟨x, hx⟩ := get_ex (show k < xs.length by omega)
          obtain ⟨bx, ox, hax, hcx⟩ := (hs []).at_ k _ hx
          refine sr_ry (x_move rfl) ?_
          refine sr_ry (x_move rfl) ?_
          refine sr_ry (x_indexAddrN (k) Tryd.underlying62 sz67 rfl hax rfl (by omega) (by omega)) ?_
          refine sr_ry (x_loadN ag67 sz67 rfl (Cells.mono hcx Sub.autoR) rfl) ?_
          refine sr_d rfl (wtd_yes rfl rfl rfl) rfl (opS_call rfl rfl rfl rfl cl39 (lpright_s x _)) ?_
          rintro _ H9 ⟨rfl, rfl⟩
          refine sr_rd (x_pick_t rfl rfl rfl) ?_
          refine sr_as ?_
          refine sr_nil ?_
          show AW _ _ _ _ _ _ _
          refine aw_region ?_
          refine sr_mv ?_
          refine sr_rd (x_add' rfl rfl (i64w (by omega) (by omega))) ?_
          refine sr_as ?_
          refine sr_nil ?_
          show ∃ s', _ ∧ _ ∧ _ ∧ _
          first | exact ⟨(k + 1, decide (PRight x)), ⟨by dsimp only; omega, (by dsimp only; rw [okB_s hx, ← hb]; rfl)⟩, by dsimp only; omega, KeepF.auto, Sub.autoD⟩ | exact ⟨(k + 1, false), ⟨by dsimp only; omega, (by dsimp only; rw [okB_s hx, ← hb]; rfl)⟩, by dsimp only; omega, KeepF.auto, Sub.autoD⟩
      · refine sr_nil ?_
        refine aw_kp [0, 1, 4, 7, 8, 40, 41, 42, 43] ?_
        refine aw_false rfl ?_
        refine aw_exit ?_
        show AW _ _ _ _ _ _ _
        refine aw_seq_region ?_
        obtain rfl : k = xs.length := by omega
        refine sr_mv ?_
        refine sr_d rfl (wtd_none rfl) rfl (opS_call rfl rfl rfl rfl cl44 (parsep_s s (by omega) _)) ?_
        rintro _ _ ⟨a9, c9, E9, rfl, V9, rfl⟩
        obtain ⟨hr, hno⟩ | ⟨ps, hr, hne, hall, htx⟩ := parseP_cases hsl
        · rw [hr] at V9 ⊢
          refine sr_mv ?_
          refine sr_rd (x_extract rfl rfl) ?_
          refine sr_rd (x_extract rfl rfl) ?_
          refine sr_as ?_
          refine sr_as ?_
          refine sr_nil ?_
          refine aw_kp [0, 1, 4, 7, 9, 10] ?_
          refine aw_seq ?_
          refine aw_seq_region ?_
          refine sr_mv ?_
          refine sr_c (x_ne rfl rfl) (fun h6 => ?_) (fun h6 => absurd (by first | (show (4 : Int) ≠ 0; decide) | exact fun h => h rfl) h6)
          refine sr_nil ?_
          refine aw_kp [0, 1, 4, 7, 9, 10, 60] ?_
          refine aw_true rfl ?_
          refine aw_seq_region ?_
          refine sr_mv ?_
          refine sr_rd (x_lenSlice Tryd.underlying62 rfl) ?_
          refine sr_c (x_eq rfl rfl) (fun h7 => ?_) (fun h7 => absurd (by rfl) h7)
          refine sr_mv ?_
          refine sr_ry (x_move rfl) ?_
          refine sr_cy (x_eq rfl rfl) (fun h8 => ?_) (fun h8 => absurd (by rfl) h8)
          refine sr_rd (x_pick_t rfl rfl rfl) ?_
          refine sr_mv ?_
          cases b
          · refine sr_ry (x_move rfl) ?_
            refine sr_ry (x_not rfl) ?_
            refine sr_ry (x_move rfl) ?_
            refine sr_sk ?_
            refine sr_sk ?_
            refine sr_sk ?_
            refine sr_sk ?_
            refine sr_ry (x_pick_t rfl rfl rfl) ?_
            refine sr_rd (x_pick_t rfl rfl rfl) ?_
            refine sr_mv ?_
            refine sr_d rfl (wtd_yes rfl rfl rfl) rfl (opS_call rfl rfl rfl rfl cl43 (awake35_s _)) ?_
            rintro _ H9 ⟨rfl, rfl⟩
            refine sr_rd (x_pick_t rfl rfl rfl) ?_
            refine sr_as ?_
            refine sr_nil ?_
            refine aw_kp [0, 4, 9] ?_
            refine aw_ret ?_
            show ∃ v H2, ResV _ _ _ _ _ _ v ∧ Sub H2 _ ∧ _
            exact ⟨_, [], resV rfl (.cons rfl .nil), (Sub.nil _), rfl⟩
          · refine sr_ry (x_move rfl) ?_
            refine sr_ry (x_not rfl) ?_
            refine sr_ry (x_move rfl) ?_
            refine sr_ry (x_move rfl) ?_
            refine sr_d rfl (wtd_yes rfl rfl rfl) rfl (opS_call rfl rfl rfl rfl cl45 (ltext_s sa scap xs _ (hs _) hw (by omega))) ?_
            rintro _ H9 ⟨rfl, rfl⟩
            refine sr_ry (x_move rfl) ?_
            refine sr_cy (x_neB rfl rfl) (fun h9 => ?_) (fun h9 => absurd (by exact hno xs (okB_t hb).1 (okB_t hb).2) h9)
            refine sr_ry (x_pick_f rfl rfl rfl) ?_
            refine sr_rd (x_pick_t rfl rfl rfl) ?_
            refine sr_mv ?_
            refine sr_d rfl (wtd_yes rfl rfl rfl) rfl (opS_call rfl rfl rfl rfl cl43 (awake35_s _)) ?_
            rintro _ H9 ⟨rfl, rfl⟩
            refine sr_rd (x_pick_t rfl rfl rfl) ?_
            refine sr_as ?_
            refine sr_nil ?_
            refine aw_kp [0, 4, 9] ?_
            refine aw_ret ?_
            show ∃ v H2, ResV _ _ _ _ _ _ v ∧ Sub H2 _ ∧ _
            exact ⟨_, [], resV rfl (.cons rfl .nil), (Sub.nil _), rfl⟩
        · rw [hr] at V9 ⊢
          have hV9 := V9.slv' (W0 := W0) (xs := ps) (fun _ => rfl) rfl (Sub.refl _)
          have hle9 := hV9.le
          have hcb9 := hV9.capb
          refine sr_mv ?_
          refine sr_rd (x_extract rfl rfl) ?_
          refine sr_rd (x_extract rfl rfl) ?_
          refine sr_as ?_
          refine sr_as ?_
          refine sr_nil ?_
          refine aw_kp [0, 1, 4, 7, 9, 10] ?_
          refine aw_seq ?_
          refine aw_seq_region ?_
          refine sr_mv ?_
          refine sr_c (x_ne rfl rfl) (fun h10 => absurd h10 (by first | (show (4 : Int) ≠ 0; decide) | exact fun h => h rfl)) (fun h10 => ?_)
          refine sr_nil ?_
          refine aw_kp [0, 1, 4, 7, 9, 10, 60] ?_
          refine aw_false rfl ?_
          refine aw_skip ?_
          show AW _ _ _ _ _ _ _
          refine aw_seq ?_
          refine aw_seq_region ?_
          refine sr_as ?_
          refine sr_nil ?_
          refine aw_kp [0, 4, 9, 11] ?_
          refine aw_block ?_
          refine aw_loop (ι := Nat) (fun q => q ≤ ps.length) (fun q => [(0, .string (bs s)), (4, .bool false), (9, .slice a9 ps.length c9), (11, .int .i64 q)]) (fun _ => E9 ++ []) (fun q => ps.length - q) 0 (Nat.zero_le _) KeepF.auto Sub.autoP ?_
          intro q hq
          refine aw_seq ?_
          refine aw_seq_region ?_
          refine sr_mv ?_
          refine sr_mv ?_
          refine sr_rd (x_lenSlice Tryd.underlying62 rfl) ?_
          refine sr_c (x_lt rfl rfl) (fun h11 => ?_) (fun h11 => ?_)
          · refine sr_nil ?_
            refine aw_kp [0, 4, 9, 11, 81, 82, 83, 84] ?_
            refine aw_true rfl ?_
            refine aw_skip ?_
            show AW _ _ _ _ _ _ _
            refine aw_seq ?_
            refine aw_block ?_
            refine aw_seq_region ?_
            obtain ⟨x, hx⟩ := get_ex (show q < ps.length by omega)
            obtain ⟨bx, ox, hax, hcx⟩ := hV9.at_ q _ hx
            refine sr_mv ?_
            refine sr_mv ?_
            refine sr_rd (x_indexAddrN (q) Tryd.underlying62 sz67 rfl hax rfl (by omega) (by omega)) ?_
            refine sr_rd (x_loadN ag67 sz67 rfl (Cells.mono hcx Sub.autoE) rfl) ?_
            refine sr_d rfl (wtd_none rfl) rfl (opS_call rfl rfl rfl rfl cl39 (lpright_s x _)) ?_
            rintro _ H9 ⟨rfl, rfl⟩
            rw [decide_eq_true (hall x (List.mem_of_getElem? hx))]
            refine sr_rd (x_not rfl) ?_
            refine sr_nil ?_
            refine aw_kp [0, 4, 9, 11, 81, 82, 83, 84, 87, 88, 89, 90, 91, 92] ?_
            refine aw_false rfl ?_
            refine aw_skip ?_
            show AW _ _ _ _ _ _ _
            refine aw_region ?_
            refine sr_mv ?_
            refine sr_rd (x_add' rfl rfl (i64w (by omega) (by omega))) ?_
            refine sr_as ?_
            refine sr_nil ?_
            show ∃ s', _ ∧ _ ∧ _ ∧ _
            exact ⟨q + 1, by omega, by omega, KeepF.auto, Sub.autoP⟩
          · refine sr_nil ?_
            refine aw_kp [0, 4, 9, 11, 81, 82, 83, 84] ?_
            refine aw_false rfl ?_
            refine aw_exit ?_
            show AW _ _ _ _ _ _ _
            refine aw_seq_region ?_
            refine sr_mv ?_
            refine sr_rd (x_lenSlice Tryd.underlying62 rfl) ?_
            refine sr_c (x_gt rfl rfl) (fun h12 => ?_) (fun h12 => absurd (by have := List.length_pos_iff.2 hne; show (ps.length : Int) > 0; omega) h12)
            refine sr_mv ?_
            refine sr_ry (x_move rfl) ?_
            refine sr_d rfl (wtd_yes rfl rfl rfl) rfl (opS_call rfl rfl rfl rfl cl45 (ltext_s a9 c9 ps _ (V9.slv' (fun _ => rfl) rfl Sub.autoE) (fun x hx => right_wf (hall x hx)) (by have := txtP_ge (l := ps); rw [htx] at this; omega))) ?_
            rintro _ H9 ⟨rfl, rfl⟩
            refine sr_ry (x_move rfl) ?_
            refine sr_cy (x_eqB rfl rfl) (fun h13 => ?_) (fun h13 => absurd (by exact htx) h13)
            refine sr_rd (x_pick_t rfl rfl rfl) ?_
            refine sr_mv ?_
            refine sr_d rfl (wtd_yes rfl rfl rfl) rfl (opS_call rfl rfl rfl rfl cl43 (awake35_s _)) ?_
            rintro _ H9 ⟨rfl, rfl⟩
            refine sr_rd (x_pick_t rfl rfl rfl) ?_
            refine sr_as ?_
            refine sr_nil ?_
            refine aw_kp [4] ?_
            refine aw_ret ?_
            show ∃ v H2, ResV _ _ _ _ _ _ v ∧ Sub H2 _ ∧ _
            exact ⟨_, [], resV rfl (.cons rfl .nil), (Sub.nil _), rfl⟩
end
namespace ArrayParsesRow
open Go.ChangeShapes Go.WideShapes Go.ChangeAt Go.RowKit
theorem own : ownKnob Tryd.prog.godebug = none := by kernel_rfl
theorem laidOut : laidOutB Tryd.prog = true := by kernel_rfl
def laid : List (String × DataW Unit) := [("unicode/utf8.acceptRanges", Rows.laid_unicode_utf8_acceptRanges), ("unicode/utf8.first", Rows.laid_unicode_utf8_first)]
set_option maxRecDepth 100000 in
theorem lifted (os : Os) (started : os.Started) (H : Type) (enc : TypeId × Value → H) :
    ReturnsInHanded {} Tryd.checked os 14 .any (fun w args => (Rows.arrayParsesSpec.pre enc Tryd.prog Tryd.f14 [] false w args ∧ laidMetH Tryd.prog laid w) ∧ sizedMet enc Tryd.prog Tryd.f14 (OpenSpec.ofChange Rows.arrayParsesSpec) false w args)
      (Rows.arrayParsesSpec.post enc Tryd.prog Tryd.f14 false true false false) := by
  refine law_lifted_laid (C := Tryd.checked) (tb := 4) (laid := laid) own started (by kernel_rfl) Tryd.func14
    (ChangeSpec.witness_shaped (enc := enc) (C := Tryd.checked) (os := os) (X := fun w _ => laidMetH Tryd.prog laid w) false (World.laidAll Tryd.prog os laid) #[.string .empty, .slice none 0 0] 8 (World.laidAll_os _ _ _)
      (World.shaped_of_ZipB (by kernel_rfl) (by kernel_rfl)) (by kernel_rfl) (by kernel_rfl) (by kernel_rfl)
      (by rw [MakeChecks.laidMetH_plain _ _ _ (by kernel_rfl)]; exact laidMet_laidAll _ (by kernel_rfl) (by kernel_rfl)))
    (fun w => MakeChecks.laidMetH_plain _ _ _ (by kernel_rfl)) rfl Tryd.underlying4 rfl laidOut (by kernel_rfl) ?_ ?_
  · intro ds h
    match ds, h with
    | [a0, a1], _ => rfl
  · intro W base args ds ps hval hA hlt hsz
    have hA' : DataW.TrodAll enc Tryd.prog W 0 (fun _ => true) true [9, 62] args ds ps := hA
    clear hA
    obtain ⟨v0, vs0, d0, ds0, p0, q0, rfl, rfl, rfl, h0, r0⟩ := trodAll_cons hA'
    obtain ⟨v1, vs1, d1, ds1, p1, q1, rfl, rfl, rfl, h1, r1⟩ := trodAll_cons r0
    obtain ⟨rfl, rfl, rfl⟩ := trodAll_nil r1
    obtain ⟨s, rfl, hsz⟩ := opn_str Tryd.underlying9 (hval 0 9 v0 rfl rfl) h0
    obtain ⟨a, cap, xs, rfl, hs, hw⟩ := opn_slice Tryd.underlying62 cells67 (by decide) (fun fuel cs x h => read_Part h) (hval 1 62 v1 rfl rfl) h1
    rw [bs_all s]
    exact arrayParses_s _ (by unfold maxLen at hsz; exact hsz) a cap xs hs (fun x hx => (hw x hx).w)
theorem joined : joinedFacts Tryd.prog 14 Tryd.f14 Rows.arrayParsesSpec Rows.arrayParsesRow = true := by
  unfold joinedFacts
  rw [cutMay, cutLif, cutMk]
  kernel_rfl
theorem over : Rows.arrayParsesRow.holds Tryd.pinned (OpenSpec.ofChange Rows.arrayParsesSpec) :=
  OpenClaim.holds_of_wide 14 Tryd.f14 rfl rfl rfl rfl rfl rfl rfl ⟨rfl, rfl, rfl, rfl, rfl⟩ rfl rfl rfl rfl rfl (by kernel_rfl) Tryd.func14 joined
    (of_decide_eq_true (by kernel_rfl)) (by unfold Func.isWrapper; first | (rw [if_pos (by decide +kernel)]; kernel_rfl) | (rw [if_neg (by decide +kernel)]; exact ⟨rfl, rfl⟩))
    (fun os started H enc _ => lifted os started H enc)
theorem proved : Rows.ArrayParsesCardSaid :=
  Claim7.holds_tied_plain_at .later [] [.data, .pinned] true (true, "426c9bee184f4b528ab0760080dc1cc7cd819b0490f5c9691bd34e83eb6dee88") false over (fun _ h => by cases h) (by kernel_rfl) (fun _ h => by cases h) arrayParses_row_tie rfl ⟨rfl, rfl⟩ (by kernel_rfl) rfl
    (fun f fn hf hfn => by
      obtain rfl : f = 14 := Option.some.inj ((show Tryd.prog.funcNamed "berthage/berthagelaw35.ArrayParses" = some 14 by kernel_rfl).symm.trans hf) |>.symm
      obtain rfl : fn = Tryd.f14 := (Option.some.inj (Tryd.func14.symm.trans hfn)).symm
      exact ⟨by kernel_rfl, fun j t ht => by
        have ht' : (#[9, 62] : Array TypeId)[j]? = some t := ht
        have hm : t ∈ [9, 62] := by simpa using Array.mem_of_getElem? ht'
        have hall : ([9, 62].all fun u => !Tryd.prog.wantsStandIn u) = true := by kernel_rfl
        exact (show Tryd.prog.wantsStandIn t = false by simpa using List.all_eq_true.1 hall t hm)⟩)
    (by kernel_rfl)
#print axioms proved
end ArrayParsesRow
end Go.Proofs.YtbcajgkaepihfaaDoor
