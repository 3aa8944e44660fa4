/- Any parts' text is told, and those that may be are read again; no condition but that the listed variables lie as the program's text lays them. -/
import Derived.Test.YtbcajgkaepihfaaDoorSge
import Derived.Test.YtbcajgkaepihfaaDoorSymLaid
import Derived.Test.YtbcajgkaepihfaaDoorRows
import Derived.Test.YtbcajgkaepihfaaDoorCards
import Derived.Test.YtbcajgkaepihfaaDoorTie
import Derived.Test.YtbcajgkaepihfaaDoorCut
import Derived.SevenTiedAt
namespace Go.Proofs.YtbcajgkaepihfaaDoor
open Go.Proofs.YtbcajgkaepihfaaDoor.Sym
open Go.RowKit (Below)
set_option linter.unusedVariables false
set_option linter.unusedSimpArgs false
def okB (xs : List Part) (k : Nat) : Bool := decide (0 < xs.length) && (xs.take k).all fun p => decide (PRight p)
theorem okB_0 {xs : List Part} : decide ((xs.length : Int) > 0) = okB xs 0 := by unfold okB; simp
theorem okB_s {xs : List Part} {k : Nat} {x : Part} (h : xs[k]? = some x) : okB xs (k + 1) = (okB xs k && decide (PRight x)) := by
  unfold okB; rw [takeS h, List.all_append, Bool.and_assoc]; simp
theorem okB_t {xs : List Part} (h : true = okB xs xs.length) : xs ≠ [] ∧ ∀ p ∈ xs, PRight p := by
  unfold okB at h
  rw [List.take_length] at h
  have h := h.symm
  rw [Bool.and_eq_true, decide_eq_true_iff, List.all_eq_true] at h
  exact ⟨List.length_pos_iff.1 h.1, fun p hp => of_decide_eq_true (h.2 p hp)⟩
theorem txtP_ge : ∀ {l : List Part}, l.length ≤ (txtP l).length + 1
  | [] => by simp
  | [v] => by simp
  | v :: u :: l => by
    have h2 := txtP_ge (l := u :: l)
    unfold txtP at h2 ⊢
    rw [List.map_cons, joinW_cons (by simp), List.length_append, List.length_cons, List.length_cons]
    rw [List.length_cons] at h2 ⊢
    omega
theorem cells3 : Tryd.prog.cellsOf 3 = 1 := by kernel_rfl
theorem cells67 : Tryd.prog.cellsOf 67 = 3 := by kernel_rfl
theorem cl38 : Callable Tryd.prog 38 := ⟨Tryd.f38, Tryd.func38, by kernel_rfl, by kernel_rfl⟩
theorem cl39 : Callable Tryd.prog 39 := ⟨Tryd.f39, Tryd.func39, by kernel_rfl, by kernel_rfl⟩
theorem cl43 : Callable Tryd.prog 43 := ⟨Tryd.f43, Tryd.func43, by kernel_rfl, by kernel_rfl⟩
theorem cl45 : Callable Tryd.prog 45 := ⟨Tryd.f45, Tryd.func45, by kernel_rfl, by kernel_rfl⟩
theorem cl50 : Callable Tryd.prog 50 := ⟨Tryd.f50, Tryd.func50, by kernel_rfl, by kernel_rfl⟩
theorem ks67 : kindsOf Tryd.prog 67 = some [.int, .int, .int] := by kernel_rfl
section
variable {W0 : World}
set_option maxRecDepth 100000 in
theorem read_Part {H : Type} {enc : TypeId × Value → H} {w : World} {base : Nat} {spare : Nat → Bool} {held : Bool} {fuel : Nat} {cs : List Value} {x : DataW H × List MemPlace} (h : DataW.trod enc Tryd.prog w base spare held fuel 67 cs = some x) : ∃ j : Part, cs = j.cells ∧ j.Wf := by
  obtain ⟨hlen, n, hf⟩ := read_struct Tryd.underlying67 h
  rw [cells67] at hlen
  obtain ⟨a0, e0, l0, u0⟩ := read_int Tryd.underlying3 cells3 (hf 0 _ rfl)
  obtain ⟨a1, e1, l1, u1⟩ := read_int Tryd.underlying3 cells3 (hf 1 _ rfl)
  obtain ⟨a2, e2, l2, u2⟩ := read_int Tryd.underlying3 cells3 (hf 2 _ rfl)
  refine ⟨⟨a0, a1, a2⟩, ?_, ⟨l0, u0, l1, u1, l2, u2⟩⟩
  apply List.ext_getElem?
  intro i
  match i with
  | 0 => exact e0
  | 1 => exact e1
  | 2 => exact e2
  | i + 3 => rw [List.getElem?_eq_none (by omega), List.getElem?_eq_none (by simp)]
set_option maxRecDepth 100000 in
theorem open_Part {H : Type} {enc : TypeId × Value → H} {w : World} {base b0 : Nat} {spare : Nat → Bool} {held : Bool} {v : Value} {d : DataW H} {p : List MemPlace} {r : Reach} (hv : Value.okWide Tryd.prog w r b0 67 v) (h : DataW.Trod enc Tryd.prog w base spare held 67 v d p) : ∃ j : Part, v = j.v ∧ j.Wf := by
  obtain ⟨cs, rfl, _⟩ := Go.WideShapes.okWide_struct Tryd.underlying67 hv
  obtain ⟨fuel, hf⟩ := h
  obtain ⟨j, h1, h2⟩ := read_Part hf
  refine ⟨j, ?_, h2⟩
  have : cs = j.cells.toArray := by apply Array.toList_inj.1; exact h1
  rw [this]
end

section
variable {W0 : World}
set_option maxRecDepth 100000 in
set_option maxHeartbeats 4000000 in
theorem arrayTexts_s (sa : Option Addr) (scap : Nat) (l : List Part) (hs0 : ∀ G, SlV W0 G 3 Part.cells sa scap l) (hwf : ∀ p ∈ l, WfP p) : AC Tryd.prog W0 17 [.slice sa l.length scap] [] (fun v _ => v = .bool true) := by
  have hle0 := (hs0 []).le
  have hcb0 := (hs0 []).capb
  refine ac_of Tryd.func17 rfl rfl rfl ?_
  refine aw_seq_region ?_
  refine sr_as ?_
  refine sr_nil ?_
  refine aw_kp [0, 2] ?_
  refine aw_seq_region ?_
  refine sr_mv ?_
  refine sr_d rfl (wtd_none rfl) rfl (opS_call rfl rfl rfl rfl cl38 (fewp_s sa scap l _ (by omega) (by omega))) ?_
  rintro _ _ ⟨rfl, rfl⟩
  obtain ⟨xs, hxs⟩ : ∃ xs, xs = l.take 20 := ⟨_, rfl⟩
  have hs : ∀ G, SlV W0 G 3 Part.cells sa scap xs := fun G => hxs ▸ (hs0 G).take 20
  have hx20 : xs.length ≤ 20 := by rw [hxs, List.length_take]; omega
  have hw : ∀ p ∈ xs, WfP p := fun p hp => hwf p (List.mem_of_mem_take (hxs ▸ hp))
  rw [← hxs]
  have hle := (hs []).le
  have hcb := (hs []).capb
  have htl := txtP_len hw
  refine sr_as ?_
  refine sr_nil ?_
  refine aw_kp [0, 2] ?_
  refine aw_seq_region ?_
  refine sr_mv ?_
  refine sr_rd (x_lenSlice Tryd.underlying62 rfl) ?_
  refine sr_rd (x_cast (u := .bool (okB xs 0)) (x_gt rfl rfl) (congrArg Value.bool okB_0)) ?_
  refine sr_as ?_
  refine sr_nil ?_
  refine aw_kp [0, 2, 3] ?_
  refine aw_seq ?_
  refine aw_seq_region ?_
  refine sr_as ?_
  refine sr_nil ?_
  refine aw_kp [0, 2, 3, 4] ?_
  refine aw_block ?_
  refine aw_loop (ι := Nat × Bool) (fun s => s.1 ≤ xs.length ∧ s.2 = okB xs s.1) (fun t => [(0, .slice sa xs.length scap), (2, .bool false), (3, .bool t.2), (4, .int .i64 t.1)]) (fun _ => []) (fun t => xs.length - t.1) (0, okB xs 0) (⟨Nat.zero_le _, rfl⟩) KeepF.auto Sub.autoP ?_
  intro t ht
  obtain ⟨k, b⟩ := t
  dsimp only at ht ⊢
  obtain ⟨hk, hb⟩ := ht
  refine aw_seq ?_
  refine aw_seq_region ?_
  refine sr_mv ?_
  refine sr_mv ?_
  refine sr_rd (x_lenSlice Tryd.underlying62 rfl) ?_
  refine sr_c (x_lt rfl rfl) (fun h1 => ?_) (fun h1 => ?_)
  · refine sr_nil ?_
    refine aw_kp [0, 2, 3, 4, 14, 15, 16, 17] ?_
    refine aw_true rfl ?_
    refine aw_skip ?_
    show AW _ _ _ _ _ _ _
    refine aw_seq ?_
    refine aw_block ?_
    refine aw_region ?_
    cases b
    · refine sr_mv ?_
      refine sr_mv ?_
      obtain ⟨x, hx⟩ := get_ex (show k < xs.length by omega)
      obtain ⟨bx, ox, hax, hcx⟩ := (hs []).at_ k _ hx
      refine sr_sk ?_
      refine sr_sk ?_
      refine sr_sk ?_
      refine sr_sk ?_
      refine sr_sk ?_
      refine sr_rd (x_pick_f rfl rfl rfl) ?_
      refine sr_as ?_
      refine sr_nil ?_
      show AW _ _ _ _ _ _ _
      refine aw_region ?_
      refine sr_mv ?_
      refine sr_rd (x_add' rfl rfl (i64w (by omega) (by omega))) ?_
      refine sr_as ?_
      refine sr_nil ?_
      show ∃ s', _ ∧ _ ∧ _ ∧ _
      first | exact ⟨(k + 1, decide (PRight x)), ⟨by dsimp only; omega, (by dsimp only; rw [okB_s hx, ← hb]; rfl)⟩, by dsimp only; omega, KeepF.auto, Sub.autoD⟩ | exact ⟨(k + 1, false), ⟨by dsimp only; omega, (by dsimp only; obtain ⟨x, hx⟩ := get_ex (show k < xs.length by omega); rw [okB_s hx, ← hb]; rfl)⟩, by dsimp only; omega, KeepF.auto, Sub.autoD⟩
    · refine sr_mv ?_
      refine sr_mv ?_
      obtain ⟨x, hx⟩ := get_ex (show k < xs.length by omega)
      obtain ⟨bx, ox, hax, hcx⟩ := (hs []).at_ k _ hx
      refine sr_ry (x_move rfl) ?_
      refine sr_ry (x_move rfl) ?_
      refine sr_ry (x_indexAddrN (k) Tryd.underlying62 sz67 rfl hax rfl (by omega) (by omega)) ?_
      refine sr_ry (x_loadN ag67 sz67 rfl (Cells.mono hcx Sub.autoR) rfl) ?_
      refine sr_d rfl (wtd_yes rfl rfl rfl) rfl (opS_call rfl rfl rfl rfl cl39 (lpright_s x _)) ?_
      rintro _ H9 ⟨rfl, rfl⟩
      refine sr_rd (x_pick_t rfl rfl rfl) ?_
      refine sr_as ?_
      refine sr_nil ?_
      show AW _ _ _ _ _ _ _
      refine aw_region ?_
      refine sr_mv ?_
      refine sr_rd (x_add' rfl rfl (i64w (by omega) (by omega))) ?_
      refine sr_as ?_
      refine sr_nil ?_
      show ∃ s', _ ∧ _ ∧ _ ∧ _
      first | exact ⟨(k + 1, decide (PRight x)), ⟨by dsimp only; omega, (by dsimp only; rw [okB_s hx, ← hb]; rfl)⟩, by dsimp only; omega, KeepF.auto, Sub.autoD⟩ | exact ⟨(k + 1, false), ⟨by dsimp only; omega, (by dsimp only; obtain ⟨x, hx⟩ := get_ex (show k < xs.length by omega); rw [okB_s hx, ← hb]; rfl)⟩, by dsimp only; omega, KeepF.auto, Sub.autoD⟩
  · refine sr_nil ?_
    refine aw_kp [0, 2, 3, 4, 14, 15, 16, 17] ?_
    refine aw_false rfl ?_
    refine aw_exit ?_
    show AW _ _ _ _ _ _ _
    refine aw_seq_region ?_
    obtain rfl : k = xs.length := by omega
    refine sr_mv ?_
    refine sr_d rfl (wtd_none rfl) rfl (opS_call rfl rfl rfl rfl cl50 (text_s sa scap xs _ (hs _) hw (by omega))) ?_
    rintro _ H9 ⟨rfl, rfl⟩
    refine sr_as ?_
    refine sr_nil ?_
    refine aw_kp [0, 2, 3, 5] ?_
    refine aw_seq ?_
    refine aw_seq_region ?_
    refine sr_mv ?_
    refine sr_mv ?_
    refine sr_d rfl (wtd_none rfl) rfl (opS_call rfl rfl rfl rfl cl45 (ltext_s sa scap xs _ (hs _) hw (by omega))) ?_
    rintro _ H9 ⟨rfl, rfl⟩
    refine sr_c (x_neB rfl rfl) (fun h2 => absurd h2 (by exact fun h => h rfl)) (fun h2 => ?_)
    refine sr_nil ?_
    refine aw_kp [0, 2, 3, 5, 33] ?_
    refine aw_false rfl ?_
    refine aw_skip ?_
    show AW _ _ _ _ _ _ _
    refine aw_seq ?_
    refine aw_seq_region ?_
    cases b
    · refine sr_mv ?_
      refine sr_rd (x_not rfl) ?_
      refine sr_nil ?_
      refine aw_kp [0, 2, 5, 35] ?_
      refine aw_true rfl ?_
      refine aw_seq_region ?_
      refine sr_d rfl (wtd_none rfl) rfl (opS_call rfl rfl rfl rfl cl43 (awake35_s _)) ?_
      rintro _ H9 ⟨rfl, rfl⟩
      refine sr_as ?_
      refine sr_nil ?_
      refine aw_kp [0, 2, 5] ?_
      refine aw_ret ?_
      show ∃ v H2, ResV _ _ _ _ _ _ v ∧ Sub H2 _ ∧ _
      exact ⟨_, [], resV rfl (.cons rfl .nil), (Sub.nil _), rfl⟩
    · refine sr_mv ?_
      refine sr_rd (x_not rfl) ?_
      refine sr_nil ?_
      refine aw_kp [0, 2, 5, 35] ?_
      refine aw_false rfl ?_
      refine aw_skip ?_
      show AW _ _ _ _ _ _ _
      refine aw_seq_region ?_
      refine sr_mv ?_
      refine sr_d rfl (wtd_none rfl) rfl (opS_call rfl rfl rfl rfl cl44 (parsep_s (txtP xs) (by omega) _)) ?_
      rintro _ _ ⟨a9, c9, E9, rfl, V9, rfl⟩
      obtain ⟨hne, hall⟩ := okB_t hb
      rw [parseP_txt hne hall (by omega)] at V9 ⊢
      have hV9 := V9.slv' (W0 := W0) (xs := xs) (fun _ => rfl) rfl (Sub.refl _)
      have hle9 := hV9.le
      have hcb9 := hV9.capb
      refine sr_mv ?_
      refine sr_rd (x_extract rfl rfl) ?_
      refine sr_rd (x_extract rfl rfl) ?_
      refine sr_as ?_
      refine sr_as ?_
      refine sr_nil ?_
      refine aw_kp [0, 2, 6, 7] ?_
      refine aw_seq ?_
      refine aw_seq_region ?_
      refine sr_mv ?_
      refine sr_c (x_ne rfl rfl) (fun h3 => absurd h3 (by exact fun h => h rfl)) (fun h3 => ?_)
      refine sr_mv ?_
      refine sr_ry (x_move rfl) ?_
      refine sr_ry (x_lenSlice Tryd.underlying62 rfl) ?_
      refine sr_ry (x_move rfl) ?_
      refine sr_ry (x_lenSlice Tryd.underlying62 rfl) ?_
      refine sr_cy (x_ne rfl rfl) (fun h4 => absurd h4 (by exact fun h => h rfl)) (fun h4 => ?_)
      refine sr_rd (x_pick_f rfl rfl rfl) ?_
      refine sr_nil ?_
      refine aw_kp [0, 2, 6, 50] ?_
      refine aw_false rfl ?_
      refine aw_skip ?_
      show AW _ _ _ _ _ _ _
      refine aw_seq ?_
      refine aw_seq_region ?_
      refine sr_as ?_
      refine sr_nil ?_
      refine aw_kp [0, 2, 6, 8] ?_
      refine aw_block ?_
      refine aw_loop (ι := Nat) (fun q => q ≤ xs.length) (fun q => [(0, .slice sa xs.length scap), (2, .bool false), (6, .slice a9 xs.length c9), (8, .int .i64 q)]) (fun _ => E9 ++ []) (fun q => xs.length - q) 0 (Nat.zero_le _) KeepF.auto Sub.autoP ?_
      intro q hq
      refine aw_seq ?_
      refine aw_seq_region ?_
      refine sr_mv ?_
      refine sr_mv ?_
      refine sr_rd (x_lenSlice Tryd.underlying62 rfl) ?_
      refine sr_c (x_lt rfl rfl) (fun h5 => ?_) (fun h5 => ?_)
      · refine sr_nil ?_
        refine aw_kp [0, 2, 6, 8, 51, 52, 53, 54] ?_
        refine aw_true rfl ?_
        refine aw_skip ?_
        show AW _ _ _ _ _ _ _
        refine aw_seq ?_
        refine aw_block ?_
        refine aw_seq_dr ⟨_, 9, 67, [[], [], [0, 1], [0, 1, 2], [], [], [4, 5], [4, 5, 6], [0, 1, 2, 3, 4, 5, 6, 7]], [.light, .light, .light, .mem, .light, .light, .light, .mem, .light]⟩ (by kernel_rfl) rfl rfl mix ?_
        obtain ⟨x, hx⟩ := get_ex (show q < xs.length by omega)
        obtain ⟨bx, ox, hax, hcx⟩ := (hs []).at_ q _ hx
        obtain ⟨by', oy, hay, hcy⟩ := hV9.at_ q _ hx
        refine dr_l (x_move rfl) ?_
        refine dr_l (x_move rfl) ?_
        refine dr_l (x_indexAddrN (q) Tryd.underlying62 sz67 rfl hay rfl (by omega) (by omega)) ?_
        refine dr_mem0 rfl rfl (wtd_none rfl) (x_loadN ag67 sz67 rfl (Cells.mono hcy Sub.autoE) rfl) ?_
        refine dr_l (x_move rfl) ?_
        refine dr_l (x_move rfl) ?_
        refine dr_l (x_indexAddrN (q) Tryd.underlying62 sz67 rfl hax rfl (by omega) (by omega)) ?_
        refine dr_mem0 rfl rfl (wtd_none rfl) (x_loadN ag67 sz67 rfl (Cells.mono hcx Sub.autoR) rfl) ?_
        refine dr_cmp rfl rfl (wtd_none rfl) (x_neStruct Tryd.underlying67 ks67 rfl rfl rfl rfl rfl) (fun h6 => absurd h6 (by exact fun h => Bool.noConfusion (((eqC_part (a := x) (b := x)).2 rfl).symm.trans h))) (fun h6 => ?_)
        refine dr_nil0 ?_
        refine aw_kp [0, 2, 6, 8, 51, 52, 53, 54, 57, 58, 59, 60, 61, 62, 63, 64, 65] ?_
        refine aw_false rfl ?_
        refine aw_skip ?_
        show AW _ _ _ _ _ _ _
        refine aw_region ?_
        refine sr_mv ?_
        refine sr_rd (x_add' rfl rfl (i64w (by omega) (by omega))) ?_
        refine sr_as ?_
        refine sr_nil ?_
        show ∃ s', _ ∧ _ ∧ _ ∧ _
        exact ⟨q + 1, by omega, by omega, KeepF.auto, Sub.autoP⟩
      · refine sr_nil ?_
        refine aw_kp [0, 2, 6, 8, 51, 52, 53, 54] ?_
        refine aw_false rfl ?_
        refine aw_exit ?_
        show AW _ _ _ _ _ _ _
        refine aw_seq_region ?_
        refine sr_d rfl (wtd_none rfl) rfl (opS_call rfl rfl rfl rfl cl43 (awake35_s _)) ?_
        rintro _ H9 ⟨rfl, rfl⟩
        refine sr_as ?_
        refine sr_nil ?_
        refine aw_kp [2] ?_
        refine aw_ret ?_
        show ∃ v H2, ResV _ _ _ _ _ _ v ∧ Sub H2 _ ∧ _
        exact ⟨_, [], resV rfl (.cons rfl .nil), (Sub.nil _), rfl⟩
end
namespace ArrayTextsRow
open Go.ChangeShapes Go.WideShapes Go.ChangeAt Go.RowKit
theorem own : ownKnob Tryd.prog.godebug = none := by kernel_rfl
theorem laidOut : laidOutB Tryd.prog = true := by kernel_rfl
def laid : List (String × DataW Unit) := [("unicode/utf8.acceptRanges", Rows.laid_unicode_utf8_acceptRanges), ("unicode/utf8.first", Rows.laid_unicode_utf8_first)]
set_option maxRecDepth 100000 in
theorem lifted (os : Os) (started : os.Started) (H : Type) (enc : TypeId × Value → H) :
    ReturnsInHanded {} Tryd.checked os 17 .any (fun w args => (Rows.arrayTextsSpec.pre enc Tryd.prog Tryd.f17 [] false w args ∧ laidMetH Tryd.prog laid w) ∧ sizedMet enc Tryd.prog Tryd.f17 (OpenSpec.ofChange Rows.arrayTextsSpec) false w args)
      (Rows.arrayTextsSpec.post enc Tryd.prog Tryd.f17 false true false false) := by
  refine law_lifted_laid (C := Tryd.checked) (tb := 4) (laid := laid) own started (by kernel_rfl) Tryd.func17
    (ChangeSpec.witness_shaped (enc := enc) (C := Tryd.checked) (os := os) (X := fun w _ => laidMetH Tryd.prog laid w) false (World.laidAll Tryd.prog os laid) #[.slice none 0 0] 8 (World.laidAll_os _ _ _)
      (World.shaped_of_ZipB (by kernel_rfl) (by kernel_rfl)) (by kernel_rfl) (by kernel_rfl) (by kernel_rfl)
      (by rw [MakeChecks.laidMetH_plain _ _ _ (by kernel_rfl)]; exact laidMet_laidAll _ (by kernel_rfl) (by kernel_rfl)))
    (fun w => MakeChecks.laidMetH_plain _ _ _ (by kernel_rfl)) rfl Tryd.underlying4 rfl laidOut (by kernel_rfl) ?_ ?_
  · intro ds h
    match ds, h with
    | [a0], _ => rfl
  · intro W base args ds ps hval hA hlt hsz
    have hA' : DataW.TrodAll enc Tryd.prog W 0 (fun _ => true) true [62] args ds ps := hA
    clear hA
    obtain ⟨v0, vs0, d0, ds0, p0, q0, rfl, rfl, rfl, h0, r0⟩ := trodAll_cons hA'
    obtain ⟨rfl, rfl, rfl⟩ := trodAll_nil r0
    obtain ⟨a, cap, xs, rfl, hs, hw⟩ := opn_slice Tryd.underlying62 cells67 (by decide) (fun fuel cs x h => read_Part h) (hval 0 62 v0 rfl rfl) h0
    exact arrayTexts_s a cap xs hs (fun x hx => (hw x hx).w)
theorem joined : joinedFacts Tryd.prog 17 Tryd.f17 Rows.arrayTextsSpec Rows.arrayTextsRow = true := by
  unfold joinedFacts
  rw [cutMay, cutLif, cutMk]
  kernel_rfl
theorem over : Rows.arrayTextsRow.holds Tryd.pinned (OpenSpec.ofChange Rows.arrayTextsSpec) :=
  OpenClaim.holds_of_wide 17 Tryd.f17 rfl rfl rfl rfl rfl rfl rfl ⟨rfl, rfl, rfl, rfl, rfl⟩ rfl rfl rfl rfl rfl (by kernel_rfl) Tryd.func17 joined
    (of_decide_eq_true (by kernel_rfl)) (by unfold Func.isWrapper; first | (rw [if_pos (by decide +kernel)]; kernel_rfl) | (rw [if_neg (by decide +kernel)]; exact ⟨rfl, rfl⟩))
    (fun os started H enc _ => lifted os started H enc)
theorem proved : Rows.ArrayTextsCardSaid :=
  Claim7.holds_tied_plain_at .later [] [.data, .pinned] true (true, "426c9bee184f4b528ab0760080dc1cc7cd819b0490f5c9691bd34e83eb6dee88") false over (fun _ h => by cases h) (by kernel_rfl) (fun _ h => by cases h) arrayTexts_row_tie rfl ⟨rfl, rfl⟩ (by kernel_rfl) rfl
    (fun f fn hf hfn => by
      obtain rfl : f = 17 := Option.some.inj ((show Tryd.prog.funcNamed "berthage/berthagelaw35.ArrayTexts" = some 17 by kernel_rfl).symm.trans hf) |>.symm
      obtain rfl : fn = Tryd.f17 := (Option.some.inj (Tryd.func17.symm.trans hfn)).symm
      exact ⟨by kernel_rfl, fun j t ht => by
        have ht' : (#[62] : Array TypeId)[j]? = some t := ht
        have hm : t ∈ [62] := by simpa using Array.mem_of_getElem? ht'
        have hall : ([62].all fun u => !Tryd.prog.wantsStandIn u) = true := by kernel_rfl
        exact (show Tryd.prog.wantsStandIn t = false by simpa using List.all_eq_true.1 hall t hm)⟩)
    (by kernel_rfl)
#print axioms proved
end ArrayTextsRow
end Go.Proofs.YtbcajgkaepihfaaDoor
